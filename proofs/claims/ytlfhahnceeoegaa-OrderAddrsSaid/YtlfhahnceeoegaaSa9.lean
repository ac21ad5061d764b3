/- OrderAddrs: addresses are sorted with the own ones that go with them (text 9 of 10) -/
import Derived.Test.YtlfhahnceeoegaaSa8
import Derived.KernelRfl
import Derived.Test.YtlfhahnceeoegaaSa3
import Derived.Test.YtlfhahnceeoegaaSa5
import Derived.Test.YtlfhahnceeoegaaSa2
import Derived.Test.YtlfhahnceeoegaaSa4
import Derived.Test.YtlfhahnceeoegaaSa6
import Derived.Test.YtlfhahnceeoegaaSa7
import Derived.ProofKit
import Derived.Deep.Slices
import Derived.Deep.Fields
import Derived.ChangeSame
import Derived.SliceStrings
namespace Go.Proofs.YtlfhahnceeoegaaW.PrintLast
end Go.Proofs.YtlfhahnceeoegaaW.PrintLast
namespace Go.Proofs.YtlfhahnceeoegaaW.PrintMore
end Go.Proofs.YtlfhahnceeoegaaW.PrintMore
namespace Go.Proofs.YtlfhahnceeoegaaW.PrintWords
end Go.Proofs.YtlfhahnceeoegaaW.PrintWords
section
set_option linter.unusedVariables false
set_option linter.unusedSimpArgs false
set_option maxRecDepth 100000
namespace Go.Proofs.Ytlfhahnceeoegaa.All
open Go.RowKit Go.Proofs.YtlfhahnceeoegaaW.PrintWords Go.Proofs.YtlfhahnceeoegaaW.PrintLast Go.Proofs.YtlfhahnceeoegaaW.PrintMore
def Tot {α : Type} (g : Nat → Option α) (p : α → Prop) : Prop := ∃ r, p r ∧ Ev g r
section
variable {α β : Type} {g f : Nat → Option α} {p : α → Prop} {q : β → Prop}
theorem Tot.now {r : α} (h : p r) : Tot (fun _ => some r) p := ⟨r, h, Ev.now r⟩
theorem Tot.step (h : ∀ k, g (k + 1) = f k) (t : Tot f p) : Tot g p := by
 obtain ⟨r, hp, he⟩ := t
 exact ⟨r, hp, Ev.step h he⟩
theorem Tot.congr (h : ∀ k, g k = f k) (t : Tot f p) : Tot g p := by
 obtain ⟨r, hp, he⟩ := t
 exact ⟨r, hp, Ev.congr h he⟩
theorem Tot.bind {F : Nat → α → Option β} (t : Tot g p) (h : ∀ a, p a → Tot (fun n => F n a) q) : Tot (fun n => (g n).bind (F n)) q := by
 obtain ⟨a, hp, he⟩ := t
 obtain ⟨b, hq, hb⟩ := h a hp
 exact ⟨b, hq, Ev.bind he hb⟩
theorem Tot.imp {p' : α → Prop} (t : Tot g p) (h : ∀ a, p a → p' a) : Tot g p' := by
 obtain ⟨r, hp, he⟩ := t
 exact ⟨r, h r hp, he⟩
end
theorem wid (x : Int) (h0 : -4611686018427387904 ≤ x) (h1 : x ≤ 4611686018427387904) : wrap64 x = x := by
 unfold wrap64
 omega
theorem wsuc (i : Nat) (h : i < 4611686018427387904) : wrap64 ((i : Int) + 1) = ((i + 1 : Nat) : Int) := by
 unfold wrap64
 omega
theorem num_l (a : ByteArray) (m : Int) (hn : a.size ≤ 1000000) : ∀ (d i : Nat) (v : Int), a.size - i = d → Tot (fun k => conciergeref2_Num.l0 k a m v (i : Int)) (fun _ => True)
 | 0, i, v, h => by
  by_cases hv : v > m
  ·exact Tot.step (f := fun _ => some (0, false)) (fun k => by simp only [conciergeref2_Num.l0]; rw [if_neg (by omega), if_pos hv]) (Tot.now trivial)
  ·exact Tot.step (f := fun _ => some (v, true)) (fun k => by simp only [conciergeref2_Num.l0]; rw [if_neg (by omega), if_neg hv]) (Tot.now trivial)
 | d + 1, i, v, h => by
  by_cases h1 : bt a i < 48
  ·exact Tot.step (f := fun _ => some (0, false)) (fun k => by simp only [conciergeref2_Num.l0]; rw [if_pos (by omega), if_pos (by omega), if_pos h1]) (Tot.now trivial)
  ·by_cases h2 : bt a i > 57
   ·exact Tot.step (f := fun _ => some (0, false)) (fun k => by simp only [conciergeref2_Num.l0]; rw [if_pos (by omega), if_pos (by omega), if_neg h1, if_pos h2]) (Tot.now trivial)
   ·exact Tot.step (fun k => by simp only [conciergeref2_Num.l0]; rw [if_pos (by omega), if_pos (by omega), if_neg h1, if_neg h2, wsuc i (by omega)]) (num_l a m hn d (i + 1) (wrap64 ((wrap64 (10 * v)) + (((bt a i) - 48) % 256))) (by omega))
theorem num_j (a : ByteArray) (m : Int) (hn : a.size ≤ 1000000) (t : Bool) : Tot (fun k => conciergeref2_Num.j0 k a m t) (fun _ => True) := by
 cases t with
 | true => exact Tot.step (f := fun _ => some (0, false)) (fun k => by simp [conciergeref2_Num.j0]) (Tot.now trivial)
 | false => exact Tot.step (fun k => by simp only [conciergeref2_Num.j0]; rw [if_neg (by decide)]; rfl) (num_l a m hn _ 0 0 rfl)
theorem num_tot (a : ByteArray) (m : Int) : Tot (fun k => conciergeref2_Num.f k a m) (fun _ => True) := by
 unfold conciergeref2_Num.f
 by_cases h1 : (a.size : Int) < 1
 ·refine Tot.congr (f := fun k => conciergeref2_Num.j0 k a m true) (fun k => by rw [if_pos h1]) (Tot.step (f := fun _ => some (0, false)) (fun k => by simp [conciergeref2_Num.j0]) (Tot.now trivial))
 ·by_cases h2 : (a.size : Int) > 9
  ·refine Tot.congr (f := fun k => conciergeref2_Num.j0 k a m true) (fun k => by rw [if_neg h1, if_pos h2]) (Tot.step (f := fun _ => some (0, false)) (fun k => by simp [conciergeref2_Num.j0]) (Tot.now trivial))
  ·by_cases h3 : bt a 0 = 48
   ·exact Tot.congr (fun k => by rw [if_neg h1, if_neg h2, if_pos (by omega), if_pos h3]) (num_j a m (by omega) _)
   ·exact Tot.congr (fun k => by rw [if_neg h1, if_neg h2, if_pos (by omega), if_neg h3]) (num_j a m (by omega) _)
theorem split_l (a : ByteArray) (c : Int) (hn : a.size ≤ 1000000) : ∀ (d st i : Nat) (acc : List ByteArray), a.size + 1 - i = d → st ≤ i → i ≤ a.size + 1 → acc.length ≤ i → (∀ s ∈ acc, s.size ≤ a.size) → Tot (fun k => conciergeref2_Split.l0 k a c acc (st : Int) (i : Int)) (fun r => r.length ≤ a.size + 1 ∧ ∀ s ∈ r, s.size ≤ a.size)
 | 0, st, i, acc, h, hs, hi, ha, hz => Tot.step (f := fun _ => some acc) (fun k => by simp only [conciergeref2_Split.l0]; rw [if_neg (by omega)]) (Tot.now ⟨by omega, hz⟩)
 | d + 1, st, i, acc, h, hs, hi, ha, hz => by
  have hz1 : ∀ s ∈ acc ++ [a.extract ((st : Int)).toNat ((i : Int)).toNat], s.size ≤ a.size := by
   intro s hs
   rcases List.mem_append.1 hs with h1 | h1
   ·exact hz s h1
   ·rw [List.mem_singleton.1 h1, ByteArray.size_extract]; omega
  have h1 := split_l a c hn d (i + 1) (i + 1) (acc ++ [a.extract ((st : Int)).toNat ((i : Int)).toNat]) (by omega) (by omega) (by omega) (by simp; omega) hz1
  by_cases e : (i : Int) = (a.size : Int)
  ·refine Tot.step (fun k => ?_) h1
   simp only [conciergeref2_Split.l0]
   rw [if_pos (by omega), if_pos e, if_pos (by omega), if_pos (by omega), if_pos (by omega), wsuc i (by omega)]
  ·by_cases hc : bt a i = c
   ·refine Tot.step (fun k => ?_) h1
    simp only [conciergeref2_Split.l0]
    rw [if_pos (by omega), if_neg e, if_pos (by omega), if_pos (by omega), if_pos hc, if_pos (by omega), if_pos (by omega), if_pos (by omega), wsuc i (by omega)]
   ·refine Tot.step (fun k => ?_) (split_l a c hn d st (i + 1) acc (by omega) (by omega) (by omega) (by omega) hz)
    simp only [conciergeref2_Split.l0]
    rw [if_pos (by omega), if_neg e, if_pos (by omega), if_pos (by omega), if_neg hc, wsuc i (by omega)]
theorem split_tot (a : ByteArray) (c : Int) (hn : a.size ≤ 1000000) : Tot (fun k => conciergeref2_Split.f k a c) (fun r => r.length ≤ a.size + 1 ∧ ∀ s ∈ r, s.size ≤ a.size) := split_l a c hn _ 0 0 [] rfl (by omega) (by omega) (by simp) (by simp)
theorem strOfNums_size (l : List Int) : (strOfNums l).size = l.length := by simp [strOfNums, ByteArray.size]
theorem four_l (L : List ByteArray) (hL : L.length = 4) : ∀ (d i : Nat) (acc : List Int), 4 - i = d → i ≤ 4 → acc.length = i → Tot (fun k => conciergeref2_four.l0 k L acc (i : Int)) (fun r => r.1.size ≤ 4)
 | 0, i, acc, h, hi, ha => Tot.step (f := fun _ => some (strOfNums acc, true)) (fun k => by simp only [conciergeref2_four.l0]; rw [if_neg (by omega)]) (Tot.now (by simp only [strOfNums_size]; omega))
 | d + 1, i, acc, h, hi, ha => by
  refine Tot.step (f := fun k => (conciergeref2_Num.f k (rdOf ByteArray.empty L i) 255).bind fun bt116 => (if bt116.2 = true then (if acc.length < 140737488355328 then (conciergeref2_four.l0 k L (acc ++ [(bt116.1) % 256]) (wrap64 ((i : Int) + 1))) else (none)) else (some ((⟨#[]⟩ : ByteArray), false)))) (fun k => ?_) (Tot.bind (num_tot _ _) fun r _ => ?_)
  ·simp only [conciergeref2_four.l0]
   rw [if_pos (by omega), if_pos (by omega), if_pos (by omega)]
  ·by_cases hr : r.2 = true
   ·exact Tot.congr (fun k => by rw [if_pos hr, if_pos (by omega), wsuc i (by omega)]) (four_l L hL d (i + 1) (acc ++ [r.1 % 256]) (by omega) (by omega) (by simp [ha]))
   ·exact Tot.congr (fun k => by rw [if_neg hr]) (Tot.now (by simp [ByteArray.size]))
theorem four_tot (a : ByteArray) (hn : a.size ≤ 1000000) : Tot (fun k => conciergeref2_four.f k a) (fun r => r.1.size ≤ 4) := by
 unfold conciergeref2_four.f
 refine Tot.bind (split_tot a 46 hn) fun L hL => ?_
 by_cases h : (L.length : Int) = 4
 ·exact Tot.congr (fun k => by rw [if_pos h]; rfl) (four_l L (by omega) 4 0 [] rfl (by omega) rfl)
 ·exact Tot.congr (fun k => by rw [if_neg h]) (Tot.now (by simp [ByteArray.size]))
theorem hex_tot (x : Int) : Tot (fun k => conciergeref2_hex.f k x) (fun _ => True) := by
 have j1 : ∀ t, Tot (fun k => conciergeref2_hex.j1 k x t) (fun _ => True) := by
  intro t
  refine Tot.step (f := fun _ => if t = true then (some (((x - 97) % 256) + 10)) else (if x ≥ 65 then (if x ≤ 70 then (some (((x - 65) % 256) + 10)) else (some (-1))) else (some (-1)))) (fun k => by simp only [conciergeref2_hex.j1]) ?_
  split
  ·exact Tot.now trivial
  ·split
   ·split <;> exact Tot.now trivial
   ·exact Tot.now trivial
 have j0 : ∀ t, Tot (fun k => conciergeref2_hex.j0 k x t) (fun _ => True) := by
  intro t
  cases t with
  | true => exact Tot.step (f := fun _ => some ((x - 48) % 256)) (fun k => by simp [conciergeref2_hex.j0]) (Tot.now trivial)
  | false =>
   by_cases h : x ≥ 97
   ·exact Tot.step (fun k => by simp only [conciergeref2_hex.j0]; rw [if_neg (by decide), if_pos h]) (j1 _)
   ·exact Tot.step (fun k => by simp only [conciergeref2_hex.j0]; rw [if_neg (by decide), if_neg h]) (j1 _)
 unfold conciergeref2_hex.f
 by_cases h : x ≥ 48
 ·exact Tot.congr (fun k => by rw [if_pos h]) (j0 _)
 ·exact Tot.congr (fun k => by rw [if_neg h]) (j0 _)
theorem rd_size {L : List ByteArray} {n : Nat} (h : ∀ s ∈ L, s.size ≤ n) (i : Int) : (rdOf ByteArray.empty L i).size ≤ n := by
 unfold rdOf
 rw [List.getD_eq_getElem?_getD]
 by_cases hi : i.toNat < L.length
 ·rw [List.getElem?_eq_getElem hi]
  exact h _ (List.getElem_mem hi)
 ·rw [List.getElem?_eq_none (by omega)]
  exact Nat.zero_le _
section
variable (t : Bool) (L : List ByteArray) (i : Nat) (hi : i < L.length) (hl : L.length ≤ 1000001) (hz : ∀ s ∈ L, s.size ≤ 1000000) (acc : List Int) (ha : acc.length ≤ 4 * i)
 (nx : ∀ acc' : List Int, acc'.length ≤ 4 * (i + 1) → Tot (fun k => conciergeref2_groups.l0 k t L acc' ((i + 1 : Nat) : Int)) (fun r => r.1.length ≤ 4 * L.length))
include hi hl hz ha nx
theorem groups_l1 : ∀ (d j : Nat) (v : Int), (rdOf ByteArray.empty L i).size - j = d → Tot (fun k => conciergeref2_groups.l1 k t L acc (i : Int) v (j : Int)) (fun r => r.1.length ≤ 4 * L.length)
 | 0, j, v, h => by
  refine Tot.step (fun k => ?_) (nx (acc ++ [(wrap64 (Int.tdiv v 256)) % 256, (Int.tmod v 256) % 256]) (by simp; omega))
  simp only [conciergeref2_groups.l1]
  rw [if_pos (by omega), if_pos (by omega), if_neg (by omega)]
  simp only [Option.bind_some]
  rw [if_pos (by simp; omega), wsuc i (by omega)]
 | d + 1, j, v, h => by
  have hzi := rd_size hz (i : Int)
  refine Tot.step (f := fun k => (conciergeref2_hex.f k (bt (rdOf ByteArray.empty L (i : Int)) (j : Int))).bind fun t134 => (if t134 < 0 then (some (([] : List Int), false)) else (conciergeref2_groups.l1 k t L acc (i : Int) (wrap64 ((wrap64 (16 * v)) + t134)) (wrap64 ((j : Int) + 1))))) (fun k => ?_) (Tot.bind (hex_tot _) fun r _ => ?_)
  ·simp only [conciergeref2_groups.l1]
   rw [if_pos (by omega), if_pos (by omega), if_pos (by omega), if_pos (by omega)]
  ·by_cases hr : r < 0
   ·exact Tot.congr (fun k => by rw [if_pos hr]) (Tot.now (by simp))
   ·exact Tot.congr (fun k => by rw [if_neg hr, wsuc j (by omega)]) (groups_l1 d (j + 1) _ (by omega))
theorem groups_j3 (b : Bool) : Tot (fun k => conciergeref2_groups.j3 k t L acc (i : Int) b) (fun r => r.1.length ≤ 4 * L.length) := by
 cases b with
 | true => exact Tot.step (f := fun _ => some (([] : List Int), false)) (fun k => by simp [conciergeref2_groups.j3]) (Tot.now (by simp))
 | false => exact Tot.step (fun k => by simp only [conciergeref2_groups.j3]; rw [if_neg (by decide)]; rfl) (groups_l1 t L i hi hl hz acc ha nx _ 0 0 rfl)
theorem groups_j2 : Tot (fun k => conciergeref2_groups.j2 k t L acc (i : Int)) (fun r => r.1.length ≤ 4 * L.length) := by
 by_cases h : ((rdOf ByteArray.empty L (i : Int)).size : Int) < 1
 ·exact Tot.step (fun k => by simp only [conciergeref2_groups.j2]; rw [if_pos (by omega), if_pos (by omega), if_pos h]) (groups_j3 t L i hi hl hz acc ha nx true)
 ·exact Tot.step (fun k => by simp only [conciergeref2_groups.j2]; rw [if_pos (by omega), if_pos (by omega), if_neg h]) (groups_j3 t L i hi hl hz acc ha nx _)
theorem groups_j1 (b : Bool) : Tot (fun k => conciergeref2_groups.j1 k t L acc (i : Int) b) (fun r => r.1.length ≤ 4 * L.length) := by
 cases b with
 | false => exact Tot.step (fun k => by simp only [conciergeref2_groups.j1]; rw [if_neg (by decide)]) (groups_j2 t L i hi hl hz acc ha nx)
 | true =>
  refine Tot.step (f := fun k => (conciergeref2_four.f k (rdOf ByteArray.empty L (i : Int))).bind fun bt125 => (if bt125.2 = true then (if acc.length + bt125.1.size < 140737488355328 then (conciergeref2_groups.l0 k t L (acc ++ bytesOf bt125.1) (wrap64 ((i : Int) + 1))) else (none)) else (conciergeref2_groups.j2 k t L acc (i : Int)))) (fun k => ?_) (Tot.bind (four_tot _ (rd_size hz _)) fun r hr => ?_)
  ·simp only [conciergeref2_groups.j1]
   rw [if_pos trivial, if_pos (by omega), if_pos (by omega)]
  ·by_cases hb : r.2 = true
   ·exact Tot.congr (fun k => by rw [if_pos hb, if_pos (by omega), wsuc i (by omega)]) (nx _ (by rw [List.length_append, bytesOf_length]; omega))
   ·exact Tot.congr (fun k => by rw [if_neg hb]) (groups_j2 t L i hi hl hz acc ha nx)
end
theorem groups_l0 (t : Bool) (L : List ByteArray) (hl : L.length ≤ 1000001) (hz : ∀ s ∈ L, s.size ≤ 1000000) : ∀ (d i : Nat) (acc : List Int), L.length - i = d → i ≤ L.length → acc.length ≤ 4 * i → Tot (fun k => conciergeref2_groups.l0 k t L acc (i : Int)) (fun r => r.1.length ≤ 4 * L.length)
 | 0, i, acc, h, hi, ha => Tot.step (f := fun _ => some (acc, true)) (fun k => by simp only [conciergeref2_groups.l0]; rw [if_neg (by omega)]) (Tot.now (by simp only; omega))
 | d + 1, i, acc, h, hi, ha => by
  have nx := fun acc' (h' : acc'.length ≤ 4 * (i + 1)) => groups_l0 t L hl hz d (i + 1) acc' (by omega) (by omega) h'
  cases t with
  | true => exact Tot.step (fun k => by simp only [conciergeref2_groups.l0]; rw [if_pos (by omega), if_pos trivial]) (groups_j1 true L i (by omega) hl hz acc ha nx _)
  | false => exact Tot.step (fun k => by simp only [conciergeref2_groups.l0]; rw [if_pos (by omega), if_neg (by decide)]) (groups_j1 false L i (by omega) hl hz acc ha nx _)
theorem groups_tot (a : ByteArray) (t : Bool) (hn : a.size ≤ 1000000) : Tot (fun k => conciergeref2_groups.f k a t) (fun r => r.1.length ≤ 8000000) := by
 unfold conciergeref2_groups.f
 by_cases h : a.toList = ([] : List UInt8)
 ·exact Tot.congr (fun k => by rw [if_pos h]) (Tot.now (by simp))
 ·refine Tot.congr (fun k => by rw [if_neg h]) (Tot.bind (split_tot a 58 hn) fun L hL => ?_)
  exact (groups_l0 t L (by omega) (fun s hs => by have := hL.2 s hs; omega) _ 0 [] rfl (by omega) (by simp)).imp fun r hr => by omega
theorem parse_l0 (a : ByteArray) (hn : a.size ≤ 1000000) : ∀ (d i : Nat), a.size - i = d → i ≤ a.size → Tot (fun k => conciergeref2_Parse.l0 k a (i : Int)) (fun _ => True) := by
 have hend : ∀ i : Nat, ¬ ((i : Int) + 1 < (a.size : Int)) → i ≤ a.size → Tot (fun k => conciergeref2_Parse.l0 k a (i : Int)) (fun _ => True) := by
  intro i h hi
  refine Tot.step (f := fun k => (conciergeref2_groups.f k a true).bind fun bt138 => (if bt138.2 = true then (if (bt138.1.length : Int) = 16 then (some (strOfNums bt138.1, true)) else (some ((⟨#[]⟩ : ByteArray), false))) else (some ((⟨#[]⟩ : ByteArray), false)))) (fun k => ?_) (Tot.bind (groups_tot a true hn) fun r _ => ?_)
  ·simp only [conciergeref2_Parse.l0]
   rw [wsuc i (by omega), if_neg (by omega)]
  ·split
   ·split <;> exact Tot.now trivial
   ·exact Tot.now trivial
 intro d
 induction d with
 | zero => intro i h hi; exact hend i (by omega) hi
 | succ d ih =>
  intro i h hi
  by_cases he : (i : Int) + 1 < (a.size : Int)
  ·have nx : Tot (fun k => conciergeref2_Parse.j1 k a (i : Int) true) (fun _ => True) := Tot.step (fun k => by simp only [conciergeref2_Parse.j1]; rw [if_pos trivial, wsuc i (by omega)]) (ih (i + 1) (by omega) (by omega))
   have fin : Tot (fun k => conciergeref2_Parse.j1 k a (i : Int) false) (fun _ => True) := by
    have e2 : wrap64 ((i : Int) + 2) = (i : Int) + 2 := wid _ (by omega) (by omega)
    have z1 : (a.extract 0 ((i : Int)).toNat).size ≤ 1000000 := by rw [ByteArray.size_extract]; omega
    have z2 : (a.extract ((i : Int) + 2).toNat a.size).size ≤ 1000000 := by rw [ByteArray.size_extract]; omega
    refine Tot.step (f := fun k => (conciergeref2_groups.f k (a.extract 0 ((i : Int)).toNat) false).bind fun bt142 => (conciergeref2_groups.f k (a.extract ((i : Int) + 2).toNat a.size) true).bind fun bt146 => (if bt142.2 = true then (if bt146.2 = true then (if (wrap64 ((bt142.1.length : Int) + (bt146.1.length : Int))) > 14 then (some ((⟨#[]⟩ : ByteArray), false)) else (if 16 ≤ 281474976710656 then ((some (List.replicate 16 0 : List Int)).bind fun y150 => (if 0 ≤ (wrap64 (16 - (bt146.1.length : Int))) then (if (wrap64 (16 - (bt146.1.length : Int))) ≤ (y150.length : Int) then (pj bt142.1 bt146.1) else (none)) else (none))) else (none))) else (some ((⟨#[]⟩ : ByteArray), false))) else (some ((⟨#[]⟩ : ByteArray), false)))) (fun k => ?_) (Tot.bind (groups_tot _ _ z1) fun r1 h1 => Tot.bind (groups_tot _ _ z2) fun r2 h2 => ?_)
    ·simp only [conciergeref2_Parse.j1]
     rw [if_neg (by decide), if_pos (by omega), if_pos (by omega), e2]
     simp only [if_pos (show (0 : Int) ≤ (i : Int) + 2 by omega), if_pos (show (i : Int) + 2 ≤ (a.size : Int) by omega)]
    ·rw [wid ((r1.1.length : Int) + (r2.1.length : Int)) (by omega) (by omega), wid (16 - (r2.1.length : Int)) (by omega) (by omega)]
     split
     ·split
      ·split
       ·exact Tot.now trivial
       ·rename_i hs
        refine ⟨(strOfNums (r1.1 ++ List.replicate (16 - r1.1.length - r2.1.length) 0 ++ r2.1), true), trivial, Ev.congr (fun k => ?_) (Ev.now _)⟩
        rw [if_pos (by decide)]
        simp only [Option.bind_some]
        rw [if_pos (by omega), if_pos (by simp; omega)]
        unfold pj
        rw [if_pos (by omega)]
      ·exact Tot.now trivial
     ·exact Tot.now trivial
   have hj : ∀ b, Tot (fun k => conciergeref2_Parse.j1 k a (i : Int) b) (fun _ => True) := fun b => by cases b; exact fin; exact nx
   by_cases hc : bt a i = 58
   ·refine Tot.step (fun k => ?_) (hj (bt a (wrap64 ((i : Int) + 1)) != 58))
    simp only [conciergeref2_Parse.l0]
    rw [if_pos (by rw [wsuc i (by omega)]; omega), if_pos (by omega), if_pos (by omega), if_pos hc, if_pos (by rw [wsuc i (by omega)]; omega)]
   ·refine Tot.step (fun k => ?_) nx
    simp only [conciergeref2_Parse.l0]
    rw [if_pos (by rw [wsuc i (by omega)]; omega), if_pos (by omega), if_pos (by omega), if_neg hc]
  ·exact hend i he hi
theorem parse_tot (a : ByteArray) (hn : a.size ≤ 1000000) : Tot (fun k => conciergeref2_Parse.f k a) (fun _ => True) := by
 unfold conciergeref2_Parse.f
 refine Tot.bind (four_tot a hn) fun r _ => ?_
 by_cases h : r.2 = true
 ·exact Tot.congr (fun k => by rw [if_pos h]) (Tot.now trivial)
 ·exact Tot.congr (fun k => by rw [if_neg h]; rfl) (parse_l0 a hn _ 0 rfl (by omega))
theorem row_tot (a : ByteArray) (x y : Int) (hn : a.size ≤ 1000000) : Tot (fun k => conciergeref15_row.f k a x y) (fun _ => True) := by
 have j0 : ∀ (s : ByteArray) (n : Int) (b : Bool), Tot (fun k => conciergeref15_row.j0 k x y s n b) (fun _ => True) := by
  intro s n b
  have hm : ∃ m, conciergeref15_mapped.f s = some m := by
   unfold conciergeref15_mapped.f
   by_cases h : (s.size : Int) = 4
   ·rw [if_pos h, if_pos (by omega)]; exact ⟨_, rfl⟩
   ·rw [if_neg h]; exact ⟨_, rfl⟩
  obtain ⟨m, hm⟩ := hm
  refine Tot.step (f := fun _ => if b = true then (some ((⟨#[]⟩ : ByteArray), (0 : Int), (0 : Int), (0 : Int), false)) else (if (s.size : Int) = 4 then some (m, wrap64 (n + 96), x, y, true) else some (m, n, x, y, true))) (fun k => by simp only [conciergeref15_row.j0, hm, Option.bind_some]) ?_
  split
  ·exact Tot.now trivial
  ·split <;> exact Tot.now trivial
 unfold conciergeref15_row.f
 refine Tot.bind (split_tot a 47 hn) fun L hL => ?_
 by_cases h2 : (L.length : Int) = 2
 ·refine Tot.congr (f := fun k => (conciergeref2_Parse.f k (rdOf ByteArray.empty L 0)).bind fun bt146 => ((conciergeref2_Num.f k (rdOf ByteArray.empty L 1) (wrap64 (8 * (bt146.1.size : Int)))).bind fun bt149 => (if bt146.2 = true then (conciergeref15_row.j0 k x y bt146.1 bt149.1 (!bt149.2)) else (conciergeref15_row.j0 k x y bt146.1 bt149.1 true)))) (fun k => ?_) (Tot.bind (parse_tot _ (by have := rd_size hL.2 0; omega)) fun r1 _ => Tot.bind (num_tot _ _) fun r2 _ => ?_)
  ·rw [if_pos h2, if_pos (by omega)]
   simp only [if_pos (show (1 : Int) < (L.length : Int) by omega)]
  ·split
   ·exact j0 _ _ _
   ·exact j0 _ _ _
 ·exact Tot.congr (fun k => by rw [if_neg h2]) (Tot.now trivial)
theorem blank_some (x : Int) : ∃ b, conciergeref2_blank.f x = some b := by
 unfold conciergeref2_blank.f
 split
 ·exact ⟨_, rfl⟩
 ·split <;> exact ⟨_, rfl⟩
def wordsOk (n : Nat) (r : List ByteArray) : Prop := r.length ≤ n ∧ ∀ s ∈ r, s.size ≤ 1000000
theorem one_l0 (l : List Int) (hl : l.length ≤ 100000) : ∀ (d i : Nat) (acc : List ByteArray) (w : ByteArray) (b : Bool), l.length - i = d → i ≤ l.length → acc.length ≤ i → (∀ s ∈ acc, s.size ≤ 1000000) → w.size ≤ i →
  Tot (fun k => conciergeref2_one.l0 k l acc w b (i : Int)) (wordsOk (l.length + 1))
 | 0, i, acc, w, b, h, hi, ha, hz, hw => by
  by_cases he : w.toList = ([] : List UInt8)
  ·exact Tot.step (f := fun _ => some acc) (fun k => by simp only [conciergeref2_one.l0]; rw [if_neg (by omega), if_pos he]) (Tot.now ⟨by omega, hz⟩)
  ·refine Tot.step (f := fun _ => some (acc ++ [w])) (fun k => by simp only [conciergeref2_one.l0]; rw [if_neg (by omega), if_neg he, if_pos (by omega)]) (Tot.now ⟨by simp; omega, fun s hs => ?_⟩)
   rcases List.mem_append.1 hs with h1 | h1
   ·exact hz s h1
   ·rw [List.mem_singleton.1 h1]; omega
 | d + 1, i, acc, w, b, h, hi, ha, hz, hw => by
  have nx := fun acc' w' b' h1 h2 h3 => one_l0 l hl d (i + 1) acc' w' b' (by omega) (by omega) h1 h2 h3
  have hz' : ∀ s ∈ acc ++ [w], s.size ≤ 1000000 := by
   intro s hs
   rcases List.mem_append.1 hs with h1 | h1
   ·exact hz s h1
   ·rw [List.mem_singleton.1 h1]; omega
  have j2 : ∀ (b : Bool) (x : Int), Tot (fun k => conciergeref2_one.j2 k l acc w b (i : Int) x) (wordsOk (l.length + 1)) := by
   intro b x
   cases b with
   | true => exact Tot.step (fun k => by simp only [conciergeref2_one.j2]; rw [if_pos trivial, wsuc i (by omega)]) (nx acc w true (by omega) hz (by omega))
   | false =>
    obtain ⟨q, hq⟩ := blank_some x
    cases q with
    | true =>
     by_cases he : w.toList = ([] : List UInt8)
     ·exact Tot.step (fun k => by simp only [conciergeref2_one.j2, hq, Option.bind_some]; rw [if_neg (by decide), if_pos trivial, if_pos he, wsuc i (by omega)]) (nx acc (⟨#[]⟩ : ByteArray) false (by omega) hz (by simp [ByteArray.size]))
     ·exact Tot.step (fun k => by simp only [conciergeref2_one.j2, hq, Option.bind_some]; rw [if_neg (by decide), if_pos trivial, if_neg he, if_pos (by omega), wsuc i (by omega)]) (nx (acc ++ [w]) (⟨#[]⟩ : ByteArray) false (by simp; omega) hz' (by simp [ByteArray.size]))
    | false =>
     have hs1 : (strOfNums [x]).size = 1 := by rw [strOfNums_size]; rfl
     exact Tot.step (fun k => by simp only [conciergeref2_one.j2, hq, Option.bind_some]; rw [if_neg (by decide), if_neg (by decide), if_pos (by omega), wsuc i (by omega)]) (nx acc (w ++ strOfNums [x]) false (by omega) hz (by rw [ByteArray.size_append]; omega))
  have j1 : ∀ (b : Bool) (x : Int) (q : Bool), Tot (fun k => conciergeref2_one.j1 k l acc w b (i : Int) x q) (wordsOk (l.length + 1)) := by
   intro b x q
   cases q with
   | true => exact Tot.step (f := fun _ => some ([] : List ByteArray)) (fun k => by simp [conciergeref2_one.j1]) (Tot.now ⟨by simp, by simp⟩)
   | false =>
    cases b with
    | true => exact Tot.step (fun k => by simp only [conciergeref2_one.j1]; rw [if_neg (by decide), if_pos trivial]) (j2 true x)
    | false => exact Tot.step (fun k => by simp only [conciergeref2_one.j1]; rw [if_neg (by decide), if_neg (by decide)]) (j2 _ x)
  by_cases h32 : rd l (i : Int) < 32
  ·obtain ⟨q, hq⟩ := blank_some (rd l (i : Int))
   cases q with
   | true => exact Tot.step (fun k => by simp only [conciergeref2_one.l0, hq, Option.bind_some]; rw [if_pos (by omega), if_pos (by omega), if_pos h32, if_pos trivial]) (j1 b _ _)
   | false => exact Tot.step (fun k => by simp only [conciergeref2_one.l0, hq, Option.bind_some]; rw [if_pos (by omega), if_pos (by omega), if_pos h32, if_neg (by decide)]) (j1 b _ true)
  ·exact Tot.step (fun k => by simp only [conciergeref2_one.l0]; rw [if_pos (by omega), if_pos (by omega), if_neg h32]) (j1 b _ _)
theorem one_tot (l : List Int) : Tot (fun k => conciergeref2_one.f k l) (wordsOk 100001) := by
 unfold conciergeref2_one.f
 by_cases h : (l.length : Int) > 512
 ·exact Tot.congr (fun k => by rw [if_pos h]) (Tot.now ⟨by simp, by simp⟩)
 ·exact Tot.congr (fun k => by rw [if_neg h]; rfl) ((one_l0 l (by omega) _ 0 [] (⟨#[]⟩ : ByteArray) false rfl (by omega) (by simp) (by simp) (by simp [ByteArray.size])).imp fun r hr => ⟨by have := hr.1; omega, hr.2⟩)
def linesOk (n : Nat) (r : List S48) : Prop := r.length ≤ n ∧ ∀ x ∈ r, 0 < x.f1.length ∧ wordsOk 100001 x.f1
theorem lines_l0 (l : List Int) (hl : l.length ≤ 100000) : ∀ (d i : Nat) (acc : List S48) (n : Int) (st : Nat), l.length + 1 - i = d → i ≤ l.length + 1 → acc.length ≤ i → st ≤ i → (∀ x ∈ acc, 0 < x.f1.length ∧ wordsOk 100001 x.f1) →
  Tot (fun k => conciergeref2_Lines.l0 k l acc n (st : Int) (i : Int)) (linesOk (l.length + 1))
 | 0, i, acc, n, st, h, hi, ha, hs, hz => Tot.step (f := fun _ => some acc) (fun k => by simp only [conciergeref2_Lines.l0]; rw [if_neg (by omega)]) (Tot.now ⟨by omega, hz⟩)
 | d + 1, i, acc, n, st, h, hi, ha, hs, hz => by
  have j1 : ∀ b : Bool, Tot (fun k => conciergeref2_Lines.j1 k l acc n (st : Int) (i : Int) b) (linesOk (l.length + 1)) := by
   intro b
   cases b with
   | true => exact Tot.step (fun k => by simp only [conciergeref2_Lines.j1]; rw [if_pos trivial, wsuc i (by omega)]) (lines_l0 l hl d (i + 1) acc n st (by omega) (by omega) (by omega) (by omega) hz)
   | false =>
    refine Tot.step (f := fun k => (conciergeref2_one.f k ((l.take ((i : Int)).toNat).drop ((st : Int)).toNat)).bind fun t185 => (if (t185.length : Int) > 0 then (if acc.length < 4398046511104 then (conciergeref2_Lines.l0 k l (acc ++ [(⟨wrap64 (n + 1), t185⟩ : S48)]) (wrap64 (n + 1)) (wrap64 ((i : Int) + 1)) (wrap64 ((i : Int) + 1))) else (none)) else (conciergeref2_Lines.l0 k l acc (wrap64 (n + 1)) (wrap64 ((i : Int) + 1)) (wrap64 ((i : Int) + 1))))) (fun k => ?_) (Tot.bind (one_tot _) fun r hr => ?_)
    ·simp only [conciergeref2_Lines.j1]
     rw [if_neg (by decide), if_pos (by omega), if_pos (by omega), if_pos (by omega)]
    ·by_cases hp : (r.length : Int) > 0
     ·refine Tot.congr (fun k => by rw [if_pos hp, if_pos (by omega), wsuc i (by omega)]) (lines_l0 l hl d (i + 1) _ _ (i + 1) (by omega) (by omega) (by simp; omega) (by omega) fun x hx => ?_)
      rcases List.mem_append.1 hx with h1 | h1
      ·exact hz x h1
      ·rw [List.mem_singleton.1 h1]; exact ⟨by simp only; omega, hr⟩
     ·exact Tot.congr (fun k => by rw [if_neg hp, wsuc i (by omega)]) (lines_l0 l hl d (i + 1) acc _ (i + 1) (by omega) (by omega) (by omega) (by omega) hz)
  by_cases he : (i : Int) < (l.length : Int)
  ·exact Tot.step (fun k => by simp only [conciergeref2_Lines.l0]; rw [if_pos (by omega), if_pos he, if_pos (by omega)]) (j1 _)
  ·exact Tot.step (fun k => by simp only [conciergeref2_Lines.l0]; rw [if_pos (by omega), if_neg he]) (j1 _)
theorem lines_tot (l : List Int) (hl : l.length ≤ 100000) : Tot (fun k => conciergeref2_Lines.f k l) (linesOk (l.length + 1)) := lines_l0 l hl _ 0 [] 0 0 rfl (by omega) (by simp) (by omega) (by simp)
def rows5 : List S52 := [⟨⟨#[0, 0, 0, 0, 0, 0, 0, 0, 0, 0, 0, 0, 0, 0, 0, 1]⟩, 128, 0, 50⟩, ⟨⟨#[0, 0, 0, 0, 0, 0, 0, 0, 0, 0, 0, 0, 0, 0, 0, 0]⟩, 0, 1, 40⟩, ⟨⟨#[0, 0, 0, 0, 0, 0, 0, 0, 0, 0, 255, 255, 0, 0, 0, 0]⟩, 96, 4, 35⟩, ⟨⟨#[32, 2, 0, 0, 0, 0, 0, 0, 0, 0, 0, 0, 0, 0, 0, 0]⟩, 16, 2, 30⟩, ⟨⟨#[252, 0, 0, 0, 0, 0, 0, 0, 0, 0, 0, 0, 0, 0, 0, 0]⟩, 7, 13, 3⟩]
theorem rows_k : ∀ d, conciergeref15_Rows.f (d + 60) = some rows5 := fun d => by kernel_rfl
theorem rows_some : ∃ R, R.length = 5 ∧ Ev (fun k => conciergeref15_Rows.f k) R := ⟨rows5, rfl, 60, fun k hk => by
 obtain ⟨d, rfl⟩ : ∃ d, k = d + 60 := ⟨k - 60, by omega⟩
 exact rows_k d⟩
def selOk (r : List S52 × List ByteArray) : Prop := r.1.length ≤ 32 ∧ r.2.length ≤ 32
theorem select_l0 (M : List S48) (hM : linesOk 100001 M) : ∀ (d i : Nat) (R : List S52) (O : List ByteArray), M.length - i = d → i ≤ M.length → R.length ≤ 32 → O.length ≤ 32 → Tot (fun k => conciergeref15_Select.l0 k M (i : Int) R O) selOk
 | 0, i, R, O, h, hi, hR, hO => by
  by_cases hr : (R.length : Int) = 0
  ·obtain ⟨Q, hQ, hE⟩ := rows_some
   refine Tot.step (f := fun k => (conciergeref15_Rows.f k).bind fun t => some (t, O)) (fun k => by simp only [conciergeref15_Select.l0]; rw [if_neg (by omega), if_pos hr]) ⟨(Q, O), ⟨by simp only; omega, hO⟩, Ev.bind hE (Ev.now _)⟩
  ·exact Tot.step (f := fun _ => some (R, O)) (fun k => by simp only [conciergeref15_Select.l0]; rw [if_neg (by omega), if_neg hr]) (Tot.now ⟨hR, hO⟩)
 | d + 1, i, R, O, h, hi, hR, hO => by
  have hM1 := hM.1
  have hlt : i < M.length := by omega
  have hx : rd_T48 M (i : Int) = M[i] := by show M.getD i _ = _; simp [List.getD_eq_getElem?_getD, List.getElem?_eq_getElem hlt]
  obtain ⟨hpos, hw⟩ := hM.2 _ (List.getElem_mem hlt)
  generalize hm : M[i] = x at *
  have nx := fun R' O' h1 h2 => select_l0 M hM d (i + 1) R' O' (by omega) (by omega) h1 h2
  have j2 : ∀ b : Bool, (b = true → 1 < x.f1.length) → Tot (fun k => conciergeref15_Select.j2 k M (i : Int) x.f1 b R O) selOk := by
   intro b hb
   cases b with
   | false => exact Tot.step (fun k => by simp only [conciergeref15_Select.j2]; rw [if_neg (by decide), wsuc i (by omega)]) (nx R O hR hO)
   | true =>
    have hb' := hb rfl
    refine Tot.step (f := fun k => (conciergeref2_Parse.f k (rdOf ByteArray.empty x.f1 1)).bind fun bt219 => (if bt219.2 = true then (if (O.length : Int) < 32 then (if O.length < 8796093022208 then (conciergeref15_Select.l0 k M (wrap64 ((i : Int) + 1)) R (O ++ [bt219.1])) else (none)) else (conciergeref15_Select.l0 k M (wrap64 ((i : Int) + 1)) R O)) else (conciergeref15_Select.l0 k M (wrap64 ((i : Int) + 1)) R O))) (fun k => ?_) (Tot.bind (parse_tot _ (rd_size hw.2 1)) fun r _ => ?_)
    ·simp only [conciergeref15_Select.j2]
     rw [if_pos trivial, if_pos (by omega)]
    ·rw [wsuc i (by omega)]
     by_cases h1 : r.2 = true
     ·by_cases h2 : (O.length : Int) < 32
      ·exact Tot.congr (fun k => by rw [if_pos h1, if_pos h2, if_pos (by omega)]) (nx R (O ++ [r.1]) hR (by simp; omega))
      ·exact Tot.congr (fun k => by rw [if_pos h1, if_neg h2]) (nx R O hR hO)
     ·exact Tot.congr (fun k => by rw [if_neg h1]) (nx R O hR hO)
  have j1 : ∀ b : Bool, (b = true → x.f1.length = 4) → Tot (fun k => conciergeref15_Select.j1 k M (i : Int) x.f1 b R O) selOk := by
   intro b hb
   cases b with
   | false =>
    by_cases he : (rdOf ByteArray.empty x.f1 0).toList = ([111, 119, 110] : List UInt8)
    ·exact Tot.step (fun k => by simp only [conciergeref15_Select.j1]; rw [if_neg (by decide), if_pos (by omega), if_pos he]) (j2 _ (fun h => by have := beq_iff_eq.1 h; omega))
    ·exact Tot.step (fun k => by simp only [conciergeref15_Select.j1]; rw [if_neg (by decide), if_pos (by omega), if_neg he]) (j2 false (fun h => by cases h))
   | true =>
    have hb' := hb rfl
    refine Tot.step (f := fun k => (conciergeref2_Num.f k (rdOf ByteArray.empty x.f1 2) 1000).bind fun bt202 => (conciergeref2_Num.f k (rdOf ByteArray.empty x.f1 3) 1000).bind fun bt205 => (conciergeref15_row.f k (rdOf ByteArray.empty x.f1 1) bt202.1 bt205.1).bind fun bt208 => (if bt202.2 = true then (if bt205.2 = true then (if bt208.2.2.2.2 = true then (if (R.length : Int) < 32 then (if R.length < 3518437208883 then (conciergeref15_Select.l0 k M (wrap64 ((i : Int) + 1)) (R ++ [(⟨bt208.1, bt208.2.1, bt208.2.2.1, bt208.2.2.2.1⟩ : S52)]) O) else (none)) else (conciergeref15_Select.l0 k M (wrap64 ((i : Int) + 1)) R O)) else (conciergeref15_Select.l0 k M (wrap64 ((i : Int) + 1)) R O)) else (conciergeref15_Select.l0 k M (wrap64 ((i : Int) + 1)) R O)) else (conciergeref15_Select.l0 k M (wrap64 ((i : Int) + 1)) R O))) (fun k => ?_) (Tot.bind (num_tot _ _) fun r1 _ => Tot.bind (num_tot _ _) fun r2 _ => Tot.bind (row_tot _ _ _ (rd_size hw.2 1)) fun r3 _ => ?_)
    ·simp only [conciergeref15_Select.j1]
     rw [if_pos trivial, if_pos (by omega)]
     simp only [if_pos (show (3 : Int) < (x.f1.length : Int) by omega), if_pos (show (1 : Int) < (x.f1.length : Int) by omega)]
    ·rw [wsuc i (by omega)]
     by_cases h1 : r1.2 = true
     ·by_cases h2 : r2.2 = true
      ·by_cases h3 : r3.2.2.2.2 = true
       ·by_cases h4 : (R.length : Int) < 32
        ·exact Tot.congr (fun k => by rw [if_pos h1, if_pos h2, if_pos h3, if_pos h4, if_pos (by omega)]) (nx (R ++ [(⟨r3.1, r3.2.1, r3.2.2.1, r3.2.2.2.1⟩ : S52)]) O (by simp; omega) hO)
        ·exact Tot.congr (fun k => by rw [if_pos h1, if_pos h2, if_pos h3, if_neg h4]) (nx R O hR hO)
       ·exact Tot.congr (fun k => by rw [if_pos h1, if_pos h2, if_neg h3]) (nx R O hR hO)
      ·exact Tot.congr (fun k => by rw [if_pos h1, if_neg h2]) (nx R O hR hO)
     ·exact Tot.congr (fun k => by rw [if_neg h1]) (nx R O hR hO)
  by_cases he : (rdOf ByteArray.empty x.f1 0).toList = ([112, 114, 101, 102, 105, 120] : List UInt8)
  ·exact Tot.step (fun k => by simp only [conciergeref15_Select.l0]; rw [hx, if_pos (by omega), if_pos (by omega), if_pos (by omega), if_pos he]) (j1 _ (fun h => by have := beq_iff_eq.1 h; omega))
  ·exact Tot.step (fun k => by simp only [conciergeref15_Select.l0]; rw [hx, if_pos (by omega), if_pos (by omega), if_pos (by omega), if_neg he]) (j1 false (fun h => by cases h))
theorem select_tot (l : List Int) (hl : l.length ≤ 100000) : Tot (fun k => conciergeref15_Select.f k l) selOk := by
 unfold conciergeref15_Select.f
 refine Tot.bind (lines_tot l hl) fun M hM => ?_
 exact select_l0 M ⟨by have := hM.1; omega, hM.2⟩ _ 0 [] [] rfl (by omega) (by simp) (by simp)
end Go.Proofs.Ytlfhahnceeoegaa.All
end
section
set_option linter.unusedVariables false
set_option linter.unusedSimpArgs false
set_option maxRecDepth 100000
namespace Go.Proofs.Ytlfhahnceeoegaa.All
open Go.RowKit Go.Proofs.YtlfhahnceeoegaaW.PrintWords Go.Proofs.YtlfhahnceeoegaaW.PrintLast Go.Proofs.YtlfhahnceeoegaaW.PrintMore
theorem begun_k : ∀ d, conciergelaw20_begun.f (d + 100) = some true := fun d => by kernel_rfl
theorem begun_true : Ev (fun k => conciergelaw20_begun.f k) true := ⟨100, fun k hk => by
 obtain ⟨d, rfl⟩ : ∃ d, k = d + 100 := ⟨k - 100, by omega⟩
 exact begun_k d⟩
theorem cut_text (a : ByteArray) : ∃ r, conciergelaw2_Cut.f a 20 = some r := by
 unfold conciergelaw2_Cut.f
 by_cases h : (a.size : Int) > 20
 ·rw [if_pos h, if_pos (by omega), if_pos (by omega)]; exact ⟨_, rfl⟩
 ·rw [if_neg h]; exact ⟨_, rfl⟩
end Go.Proofs.Ytlfhahnceeoegaa.All
end
section
set_option linter.unusedVariables false
set_option linter.unusedSimpArgs false
set_option maxRecDepth 100000
namespace Go.Proofs.Ytlfhahnceeoegaa.All
open Go.RowKit Go.Proofs.YtlfhahnceeoegaaW.PrintWords Go.Proofs.YtlfhahnceeoegaaW.PrintLast Go.Proofs.YtlfhahnceeoegaaW.PrintMore
theorem short_some (l : List Int) : ∃ r, r.length ≤ 800 ∧ conciergelaw1_Short.f l 800 = some r := by
 unfold conciergelaw1_Short.f
 by_cases h : (l.length : Int) > 800
 ·rw [if_pos h, if_pos (by omega), if_pos (by omega)]
  exact ⟨_, by rw [List.length_take]; show min 800 l.length ≤ 800; omega, rfl⟩
 ·rw [if_neg h]; exact ⟨l, by omega, rfl⟩
theorem keyed_of {R : List S52} {O : List ByteArray} {kd : S34 → S59} (hn : R.length ≤ 4611686018427387904)
  (hk : ∀ p, Ev (fun k => order_Keys.f k R O p.f0 p.f1) ((kd p).f1.f0, (kd p).f1.f1, (kd p).f1.f2, (kd p).f1.f3, (kd p).f1.f4, (kd p).f1.f5)) : KeyedBy R O kd := by
 intro p
 obtain ⟨r, h1, h2⟩ := keys_sync R O hn p.f0 p.f1
 rw [Ev.uniq (hk p) h1]
 exact h2
end Go.Proofs.Ytlfhahnceeoegaa.All
end
section
set_option linter.unusedVariables false
set_option linter.unusedSimpArgs false
set_option maxRecDepth 100000
namespace Go.Proofs.Ytlfhahnceeoegaa.All
open Go.RowKit Go.Proofs.YtlfhahnceeoegaaW.PrintWords Go.Proofs.YtlfhahnceeoegaaW.PrintLast Go.Proofs.YtlfhahnceeoegaaW.PrintMore
section
variable (R : List S52) (O : List ByteArray) (a : ByteArray)
theorem from_l (hn : O.length ≤ 1000000) : ∀ (d i : Nat) (b : ByteArray) (m : Int), O.length - i = d →
  ∃ r, Ev (fun k => selecttab_From.l0 k a b m O (O.length : Int) (i : Int)) r ∧ Ev (fun k => conciergeref15_From.l0 k a b m (i : Int) R O) r
 | 0, i, b, m, h => ⟨b, Ev.step (f := fun _ => some b) (fun k => by simp only [selecttab_From.l0]; rw [if_neg (by omega)]) (Ev.now _),
   Ev.step (f := fun _ => some b) (fun k => by simp only [conciergeref15_From.l0]; rw [if_neg (by omega)]) (Ev.now _)⟩
 | d + 1, i, b, m, h => by
  have hlt : i < O.length := by omega
  obtain ⟨c, h1, h2⟩ := common_sync (rdOf ByteArray.empty O (i : Int)) a
  generalize ho : rdOf ByteArray.empty O (i : Int) = o at h1 h2
  have hw : wrap64 ((i : Int) + 1) = ((i + 1 : Nat) : Int) := w_succ i O.length hlt (by omega)
  have sA : ∀ {r : ByteArray} {f : Nat → Int → Option ByteArray}, (∀ k t, f k t = if (o.size : Int) = (a.size : Int) then ((addr_Is.f a).bind fun t284 => (if t284 = true then (if t > m then (selecttab_From.l0 k a o t O (O.length : Int) ((i + 1 : Nat) : Int)) else (selecttab_From.l0 k a b m O (O.length : Int) ((i + 1 : Nat) : Int))) else (selecttab_From.l0 k a b m O (O.length : Int) ((i + 1 : Nat) : Int)))) else (selecttab_From.l0 k a b m O (O.length : Int) ((i + 1 : Nat) : Int))) →
    Ev (fun k => f k c) r → Ev (fun k => selecttab_From.l0 k a b m O (O.length : Int) (i : Int)) r := @fun r f hf hr => by
   refine Ev.step (f := fun k => (addr_Common.f k o a).bind (f k)) (fun k => ?_) (Ev.bind h1 hr)
   simp only [selecttab_From.l0]
   rw [if_pos (by omega), if_pos (by omega), if_pos (by omega), ho, hw]
   congr 1
   funext t
   exact (hf k t).symm
  by_cases hu : (o.size = a.size ∧ (a.size = 4 ∨ a.size = 16)) ∧ c > m
  ·obtain ⟨r, g1, g2⟩ := from_l hn d (i + 1) o c (by omega)
   refine ⟨r, sA (f := _) (fun k t => rfl) (Ev.congr (fun k => ?_) g1), ?_⟩
   ·rw [if_pos (by omega), is_some, decide_eq_true hu.1.2]
    simp only [Option.bind_some]
    rw [if_pos trivial, if_pos hu.2]
   ·refine Ev.step (f := fun k => conciergeref15_From.j1 k a b m (i : Int) o false R O) (fun k => ?_) (Ev.step (f := fun k => (conciergeref2_Common.f k o a).bind fun t437 => (if t437 > m then (conciergeref15_From.l0 k a o t437 ((i + 1 : Nat) : Int) R O) else (conciergeref15_From.l0 k a b m ((i + 1 : Nat) : Int) R O))) (fun k => ?_) (Ev.bind h2 (Ev.congr (fun k => ?_) g2)))
    ·simp only [conciergeref15_From.l0]
     rw [if_pos (by omega), if_pos (by omega), ho, if_pos (by omega)]
     rcases hu.1.2 with e | e
     ·rw [if_pos (by omega)]
     ·rw [if_neg (by omega), show ((a.size : Int) != 16) = false by rw [e]; rfl]
    ·simp only [conciergeref15_From.j1]
     rw [if_neg (by decide), hw]
    ·rw [if_pos hu.2]
  ·obtain ⟨r, g1, g2⟩ := from_l hn d (i + 1) b m (by omega)
   refine ⟨r, sA (f := _) (fun k t => rfl) (Ev.congr (fun k => ?_) g1), ?_⟩
   ·by_cases e1 : o.size = a.size
    ·rw [if_pos (by omega), is_some]
     simp only [Option.bind_some]
     by_cases e2 : a.size = 4 ∨ a.size = 16
     ·rw [if_pos (by rw [decide_eq_true e2]), if_neg (fun h => hu ⟨⟨e1, e2⟩, h⟩)]
     ·rw [if_neg (by rw [decide_eq_false e2]; decide)]
    ·rw [if_neg (by omega)]
   ·have skip : Ev (fun k => conciergeref15_From.j1 k a b m (i : Int) o true R O) r :=
     Ev.step (f := fun k => conciergeref15_From.l0 k a b m ((i + 1 : Nat) : Int) R O) (fun k => by simp only [conciergeref15_From.j1]; rw [if_pos trivial, hw]) g2
    by_cases e1 : o.size = a.size
    ·by_cases e2 : a.size = 4 ∨ a.size = 16
     ·refine Ev.step (f := fun k => conciergeref15_From.j1 k a b m (i : Int) o false R O) (fun k => ?_) (Ev.step (f := fun k => (conciergeref2_Common.f k o a).bind fun t437 => (if t437 > m then (conciergeref15_From.l0 k a o t437 ((i + 1 : Nat) : Int) R O) else (conciergeref15_From.l0 k a b m ((i + 1 : Nat) : Int) R O))) (fun k => ?_) (Ev.bind h2 (Ev.congr (fun k => ?_) g2)))
      ·simp only [conciergeref15_From.l0]
       rw [if_pos (by omega), if_pos (by omega), ho, if_pos (by omega)]
       rcases e2 with e | e
       ·rw [if_pos (by omega)]
       ·rw [if_neg (by omega), show ((a.size : Int) != 16) = false by rw [e]; rfl]
      ·simp only [conciergeref15_From.j1]
       rw [if_neg (by decide), hw]
      ·rw [if_neg (fun h => hu ⟨⟨e1, e2⟩, h⟩)]
     ·refine Ev.step (fun k => ?_) skip
      simp only [conciergeref15_From.l0]
      rw [if_pos (by omega), if_pos (by omega), ho, if_pos (by omega), if_neg (by omega), show ((a.size : Int) != 16) = true by rw [bne_iff_ne]; omega]
    ·refine Ev.step (fun k => ?_) skip
     simp only [conciergeref15_From.l0]
     rw [if_pos (by omega), if_pos (by omega), ho, if_neg (by omega)]
theorem from_sync (hn : O.length ≤ 1000000) : ∃ r, Ev (fun k => selecttab_From.f k R O a) r ∧ Ev (fun k => conciergeref15_From.f k R O a) r := from_l R O a hn _ 0 _ _ rfl
end
section
variable {R : List S52} {O : List ByteArray} {fr : ByteArray → ByteArray}
theorem firsts (M : List S34) (hM : M.length ≤ 20) : ∀ (d i : Nat) (acc : List ByteArray), M.length - i = d → i ≤ M.length → acc = (M.take i).map (·.f0) → Ev (fun k => order_Addrs.l1 k acc M (M.length : Int) (i : Int)) (M.map (·.f0))
 | 0, i, acc, h, hi, ha => by
  have : i = M.length := by omega
  subst this
  rw [List.take_length] at ha
  subst ha
  exact Ev.step (f := fun _ => some _) (fun k => by simp only [order_Addrs.l1]; rw [if_neg (by omega)]) (Ev.now _)
 | d + 1, i, acc, h, hi, ha => by
  have hlt : i < M.length := by omega
  refine Ev.step (fun k => ?_) (firsts M hM d (i + 1) (acc ++ [(rd_T34 M (i : Int)).f0]) (by omega) (by omega) ?_)
  ·simp only [order_Addrs.l1]
   rw [if_pos (by omega), if_pos (by omega), if_pos (by omega), if_pos (by rw [ha, List.length_map, List.length_take]; omega), w_succ i 21 (by omega) (by omega)]
  ·rw [ha, List.take_succ_eq_append_getElem hlt, List.map_append]
   congr 1
   simp [rd_T34, List.getD_eq_getElem?_getD, hlt]
theorem firstsR (M : List S34) (hM : M.length ≤ 20) : ∀ (d i : Nat) (acc : List ByteArray), M.length - i = d → i ≤ M.length → acc = (M.take i).map (·.f0) → Ev (fun k => conciergeref15_Addrs.l1 k M acc (i : Int)) (M.map (·.f0))
 | 0, i, acc, h, hi, ha => by
  have : i = M.length := by omega
  subst this
  rw [List.take_length] at ha
  subst ha
  exact Ev.step (f := fun _ => some _) (fun k => by simp only [conciergeref15_Addrs.l1]; rw [if_neg (by omega)]) (Ev.now _)
 | d + 1, i, acc, h, hi, ha => by
  have hlt : i < M.length := by omega
  refine Ev.step (fun k => ?_) (firstsR M hM d (i + 1) (acc ++ [(rd_T34 M (i : Int)).f0]) (by omega) (by omega) ?_)
  ·simp only [conciergeref15_Addrs.l1]
   rw [if_pos (by omega), if_pos (by omega), if_pos (by rw [ha, List.length_map, List.length_take]; omega), w_succ i 21 (by omega) (by omega)]
  ·rw [ha, List.take_succ_eq_append_getElem hlt, List.map_append]
   congr 1
   simp [rd_T34, List.getD_eq_getElem?_getD, hlt]
theorem addrs_l (hf : ∀ a, Ev (fun k => selecttab_From.f k R O a) (fr a)) (L : List ByteArray) (hL : L.length ≤ 20) {M : List S34} (hM : M.length ≤ 20)
  (hs : Ev (fun k => order_Sort.f k R O (L.map fun x => ⟨x, fr x⟩)) M) : ∀ (d i : Nat) (acc : List S34), L.length - i = d → i ≤ L.length → acc = (L.take i).map (fun x => ⟨x, fr x⟩) → Ev (fun k => order_Addrs.l0 k acc L (L.length : Int) (i : Int) R O) (M.map (·.f0))
 | 0, i, acc, h, hi, ha => by
  have : i = L.length := by omega
  subst this
  rw [List.take_length] at ha
  subst ha
  refine Ev.step (f := fun k => (order_Sort.f k R O (L.map fun x => ⟨x, fr x⟩)).bind fun t291 => (order_Addrs.l1 k ([] : List ByteArray) t291 (t291.length : Int) 0)) (fun k => ?_) (Ev.bind hs (firsts M hM _ 0 [] rfl (by omega) rfl))
  simp only [order_Addrs.l0]
  rw [if_neg (by omega)]
 | d + 1, i, acc, h, hi, ha => by
  have hlt : i < L.length := by omega
  refine Ev.step (f := fun k => (selecttab_From.f k R O (rdOf ByteArray.empty L (i : Int))).bind fun t287 => (if acc.length < 4398046511104 then (order_Addrs.l0 k (acc ++ [(⟨rdOf ByteArray.empty L (i : Int), t287⟩ : S34)]) L (L.length : Int) (wrap64 ((i : Int) + 1)) R O) else (none))) (fun k => ?_) (Ev.bind (hf _) (Ev.congr (fun k => ?_) (addrs_l hf L hL hM hs d (i + 1) (acc ++ [⟨rdOf ByteArray.empty L (i : Int), fr (rdOf ByteArray.empty L (i : Int))⟩]) (by omega) (by omega) ?_)))
  ·simp only [order_Addrs.l0]
   rw [if_pos (by omega), if_pos (by omega), if_pos (by omega)]
  ·rw [if_pos (by rw [ha, List.length_map, List.length_take]; omega), w_succ i 21 (by omega) (by omega)]
  ·rw [ha, List.take_succ_eq_append_getElem hlt, List.map_append]
   congr 1
   simp [rdOf, List.getD_eq_getElem?_getD, hlt]
theorem addrs_r (hf : ∀ a, Ev (fun k => conciergeref15_From.f k R O a) (fr a)) (L : List ByteArray) (hL : L.length ≤ 20) {M : List S34} (hM : M.length ≤ 20)
  (hs : Ev (fun k => conciergeref15_Sort.f k R O (L.map fun x => ⟨x, fr x⟩)) M) : ∀ (d i : Nat) (acc : List S34), L.length - i = d → i ≤ L.length → acc = (L.take i).map (fun x => ⟨x, fr x⟩) → Ev (fun k => conciergeref15_Addrs.l0 k L acc (i : Int) R O) (M.map (·.f0))
 | 0, i, acc, h, hi, ha => by
  have : i = L.length := by omega
  subst this
  rw [List.take_length] at ha
  subst ha
  refine Ev.step (f := fun k => (conciergeref15_Sort.f k R O (L.map fun x => ⟨x, fr x⟩)).bind fun t445 => (conciergeref15_Addrs.l1 k t445 ([] : List ByteArray) 0)) (fun k => ?_) (Ev.bind hs (firstsR M hM _ 0 [] rfl (by omega) rfl))
  simp only [conciergeref15_Addrs.l0]
  rw [if_neg (by omega)]
 | d + 1, i, acc, h, hi, ha => by
  have hlt : i < L.length := by omega
  refine Ev.step (f := fun k => (conciergeref15_From.f k R O (rdOf ByteArray.empty L (i : Int))).bind fun t441 => (if acc.length < 4398046511104 then (conciergeref15_Addrs.l0 k L (acc ++ [(⟨rdOf ByteArray.empty L (i : Int), t441⟩ : S34)]) (wrap64 ((i : Int) + 1)) R O) else (none))) (fun k => ?_) (Ev.bind (hf _) (Ev.congr (fun k => ?_) (addrs_r hf L hL hM hs d (i + 1) (acc ++ [⟨rdOf ByteArray.empty L (i : Int), fr (rdOf ByteArray.empty L (i : Int))⟩]) (by omega) (by omega) ?_)))
  ·simp only [conciergeref15_Addrs.l0]
   rw [if_pos (by omega), if_pos (by omega)]
  ·rw [if_pos (by rw [ha, List.length_map, List.length_take]; omega), w_succ i 21 (by omega) (by omega)]
  ·rw [ha, List.take_succ_eq_append_getElem hlt, List.map_append]
   congr 1
   simp [rdOf, List.getD_eq_getElem?_getD, hlt]
end
theorem eqTexts_l (M : List ByteArray) (hM : M.length ≤ 20) : ∀ (d i : Nat), M.length - i = d → Ev (fun k => conciergeref5_EqTexts.l0 k M M (i : Int)) true
 | 0, i, h => Ev.step (f := fun _ => some true) (fun k => by simp only [conciergeref5_EqTexts.l0]; rw [if_neg (by omega)]) (Ev.now _)
 | d + 1, i, h => Ev.step (fun k => by simp only [conciergeref5_EqTexts.l0]; rw [if_pos (by omega), if_pos (by omega), if_pos (by omega), if_pos trivial, w_succ i 21 (by omega) (by omega)]) (eqTexts_l M hM d (i + 1) (by omega))
theorem eqTexts_same (M : List ByteArray) (hM : M.length ≤ 20) : Ev (fun k => conciergeref5_EqTexts.f k M M) true :=
 Ev.congr (fun k => by unfold conciergeref5_EqTexts.f; rw [if_pos rfl]; rfl) (eqTexts_l M hM _ 0 rfl)
theorem addrs_true (t : List Int) (L : List ByteArray) : ∃ k, conciergelaw20_OrderAddrs.f k t L = some true := by
 obtain ⟨s, hs, hse⟩ := short_some t
 obtain ⟨⟨R, O⟩, ⟨hR, hO⟩, hSel⟩ := select_tot s (by omega)
 simp only at hR hO
 obtain ⟨kd, h0, hk, hS⟩ := sort_some R O (by omega)
 have hfr : ∀ a, ∃ r, Ev (fun k => selecttab_From.f k R O a) r ∧ Ev (fun k => conciergeref15_From.f k R O a) r := fun a => from_sync R O a (by omega)
 have both : ∀ C : List ByteArray, C.length ≤ 20 → ∃ M : List ByteArray, M.length ≤ 20 ∧ Ev (fun k => order_Addrs.f k R O C) M ∧ Ev (fun k => conciergeref15_Addrs.f k R O C) M := fun C hC => by
  have hp : (C.map fun x => (⟨x, Classical.choose (hfr x)⟩ : S34)).length ≤ 20 := by rw [List.length_map]; exact hC
  have s1 := hS _ hp
  have s2 := ref_sort h0 (keyed_of (by omega) hk) _ hp
  have hl : ((isort ((C.map fun x => (⟨x, Classical.choose (hfr x)⟩ : S34)).map kd)).map (·.f0)).length = C.length := by
   rw [List.length_map, (isort_perm _).length_eq, List.length_map, List.length_map]
  generalize hM : (isort ((C.map fun x => (⟨x, Classical.choose (hfr x)⟩ : S34)).map kd)).map (·.f0) = M at s1 s2 hl
  exact ⟨M.map (fun x : S34 => x.f0), by rw [List.length_map]; omega, addrs_l (fr := fun x => Classical.choose (hfr x)) (fun x => (Classical.choose_spec (hfr x)).1) C hC (by omega) s1 _ 0 [] rfl (by omega) rfl,
   addrs_r (fr := fun x => Classical.choose (hfr x)) (fun x => (Classical.choose_spec (hfr x)).2) C hC (by omega) s2 _ 0 [] rfl (by omega) rfl⟩
 have fin : ∀ C : List ByteArray, C.length ≤ 20 → Ev (fun k => (order_Addrs.f k R O C).bind fun t468 => ((conciergeref15_Addrs.f k R O C).bind fun t471 => ((conciergeref5_EqTexts.f k t468 t471).bind fun t474 => (some t474)))) true := fun C hC => by
  obtain ⟨M, h1, h2, h3⟩ := both C hC
  exact Ev.bind h2 (Ev.bind h3 (Ev.bind (eqTexts_same M h1) (Ev.now _)))
 have loop : ∀ (d i : Nat) (acc : List ByteArray), 20 - i = d → i ≤ 20 → acc.length = i → Ev (fun k => conciergelaw20_OrderAddrs.l0 k L true acc (i : Int) R O) true := by
  intro d
  induction d with
  | zero =>
   intro i acc h hi ha
   have hi : i = 20 := by omega
   subst hi
   refine Ev.step (fun k => ?_) (fin acc (by omega))
   simp only [conciergelaw20_OrderAddrs.l0]
   by_cases h1 : ((20 : Nat) : Int) < (L.length : Int)
   ·rw [if_pos h1, if_neg (by omega), if_pos trivial]
   ·rw [if_neg h1, if_pos trivial]
  | succ d ih =>
   intro i acc h hi ha
   by_cases h1 : (i : Int) < (L.length : Int)
   ·obtain ⟨u, hu⟩ := cut_text (rdOf ByteArray.empty L (i : Int))
    refine Ev.step (fun k => ?_) (ih (i + 1) (acc ++ [u]) (by omega) (by omega) (by rw [List.length_append, ha]; rfl))
    simp only [conciergelaw20_OrderAddrs.l0]
    rw [if_pos h1, if_pos (by omega), if_pos (by omega), hu]
    simp only [Option.bind_some]
    rw [if_pos (by omega), w_succ i 21 (by omega) (by omega)]
   ·refine Ev.step (fun k => ?_) (fin acc (by omega))
    simp only [conciergelaw20_OrderAddrs.l0]
    rw [if_neg h1, if_pos trivial]
 refine Ev.rounds ?_
 unfold conciergelaw20_OrderAddrs.f
 refine Ev.bind begun_true (Ev.congr (fun k => if_pos rfl) ?_)
 rw [hse]
 simp only [Option.bind_some]
 refine Ev.bind hSel ?_
 exact loop 20 0 [] rfl (by omega) rfl
end Go.Proofs.Ytlfhahnceeoegaa.All
end
section
set_option linter.unusedVariables false
namespace Go.Proofs.Ytlfhahnceeoegaa.All
open Go.RowKit Go.ChangeShapes Go.WideShapes Go.Deep Go.Proofs.YtlfhahnceeoegaaW.PrintWords
section
variable {H : Type} {enc : TypeId × Value → H} {P : Program} {W : World} {base : Nat} {held : Bool} {A : Option Addr} {len cap fuel : Nat} {x : DataW H × List MemPlace} {t e : TypeId}
theorem cells_of {α : Type} (en : α → Value) (h1 : ∀ y, (en y).oneCell' = true) (d : α) (ht : P.underlying t = some (.slice e)) (hc1 : P.cellsOf e = 1)
  (hel : ∀ (n : Nat) (cs : List Value) (y : DataW H × List MemPlace), DataW.trod enc P W base (fun _ => true) held n e cs = some y → ∃ v : α, cs = [en v])
  (h : DataW.trod enc P W base (fun _ => true) held fuel t [.slice A len cap] = some x) : ∃ l : List α, l.length = len ∧ len ≤ cap ∧ (Kd.scalar en h1).C W A l.length l := by
 rcases open_slice ht h with h0 | ⟨a, len', cap', m, n, D, Pl, hcs, hb, hl, hm, hmm, hx, hi⟩
 ·have h0 := h0.1
  simp only [List.cons.injEq, Value.slice.injEq, and_true] at h0
  obtain ⟨rfl, rfl, rfl⟩ := h0
  exact ⟨[], rfl, Nat.le_refl _, Kd.C_nil _ _⟩
 ·simp only [List.cons.injEq, Value.slice.injEq, and_true] at hcs
  obtain ⟨rfl, rfl, rfl⟩ := hcs
  have hs : ∀ i, i < len → ∃ v : α, W.cell? (a.add i) = some (en v) := by
   intro i hlt
   obtain ⟨cs', hc, ht'⟩ := hi i (by rw [hmm]; simp; omega)
   rw [hc1] at hc
   obtain ⟨v, rfl⟩ := hel _ _ _ ht'
   obtain ⟨_, hcl, hat⟩ := World.cells?_some hc
   have := hat 0 (by omega)
   exact ⟨v, by rw [Nat.mul_one, Addr.add_zero'] at this; simpa using this⟩
  let f : Nat → α := fun i => if hlt : i < len then Classical.choose (hs i hlt) else d
  refine ⟨(List.range len).map f, by simp, hl, Kd.C_of_reads (d := d) ⟨rfl, by simp only [maxLen] at hm; simp; omega, fun hn => ⟨a, rfl, fun j hj => ?_⟩⟩⟩
  have hlt : j < len := by simpa using hj
  have hf : f j = Classical.choose (hs j hlt) := dif_pos hlt
  rw [Classical.choose_spec (hs j hlt), ← hf]
  simp [List.getD_eq_getElem?_getD, hlt]
theorem nums_of {k : IntKind} (ht : P.underlying t = some (.slice e)) (he : P.underlying e = some (.int k)) (hc1 : P.cellsOf e = 1)
  (h : DataW.trod enc P W base (fun _ => true) held fuel t [.slice A len cap] = some x) : ∃ l : List Int, l.length = len ∧ len ≤ cap ∧ (Kd.int k).C W A l.length l :=
 cells_of (Value.int k) (fun _ => rfl) 0 ht hc1 (fun n cs y hy => by obtain ⟨v, e, _⟩ := DataW.trod_int he hy; exact ⟨v, e⟩) h
theorem texts_of (ht : P.underlying t = some (.slice e)) (he : P.underlying e = some .string) (hc1 : P.cellsOf e = 1)
  (h : DataW.trod enc P W base (fun _ => true) held fuel t [.slice A len cap] = some x) : ∃ l : List ByteArray, l.length = len ∧ len ≤ cap ∧ Kd.string.C W A l.length l :=
 cells_of Value.string (fun _ => rfl) ByteArray.empty ht hc1 (fun n cs y hy => by obtain ⟨v, e, _⟩ := DataW.trod_string he hy; exact ⟨v, e⟩) h
end
end Go.Proofs.Ytlfhahnceeoegaa.All
end
