/- OrderTotal: the order goes through; what is sorted is ordered, and a permutation (text 7 of 8) -/
import Derived.Test.YtlfhahnceeoegaaSt5
import Derived.Sort.LotA
import Derived.Laws.BitsAllLaws
import Derived.Test.YtlfhahnceeoegaaSt4
import Derived.KernelRfl
import Derived.Test.YtlfhahnceeoegaaSt3
import Derived.Test.YtlfhahnceeoegaaSt6
import Derived.Test.YtlfhahnceeoegaaSt2
import Derived.ProofKit
import Derived.Deep.Slices
import Derived.Deep.Fields
import Derived.ChangeSame
import Derived.SliceStrings
namespace Go.Proofs.YtlfhahnceeoegaaW.PrintLast
end Go.Proofs.YtlfhahnceeoegaaW.PrintLast
namespace Go.Proofs.YtlfhahnceeoegaaW.PrintMore
end Go.Proofs.YtlfhahnceeoegaaW.PrintMore
namespace Go.Proofs.YtlfhahnceeoegaaW.PrintWords
end Go.Proofs.YtlfhahnceeoegaaW.PrintWords
section
set_option linter.unusedVariables false
set_option linter.unusedSimpArgs false
namespace Go.Proofs.Ytlfhahnceeoegaa.All
open Go.RowKit Go.Proofs.YtlfhahnceeoegaaW.PrintWords Go.Proofs.YtlfhahnceeoegaaW.PrintLast Go.Proofs.YtlfhahnceeoegaaW.PrintMore
theorem lz_some (x : Int) (h0 : 0 ≤ x) (h1 : x ≤ 255) : ∃ r, bits_LeadingZeros8.f x = some r := by
 unfold bits_LeadingZeros8.f bits_Len8.f
 rw [if_pos h0, if_pos h1]
 exact ⟨_, rfl⟩
theorem bt_xor (a b : ByteArray) (i : Int) : 0 ≤ Go.bits .xor .u8 (bt a i) (bt b i) ∧ Go.bits .xor .u8 (bt a i) (bt b i) ≤ 255 := by
 have h1 := bt_range a i
 have h2 := bt_range b i
 rw [u8_xor _ _ (by omega) (by omega) (by omega) (by omega)]
 have h3 : (bt a i).toNat ^^^ (bt b i).toNat < 2 ^ 8 := Nat.xor_lt_two_pow (by omega) (by omega)
 omega
theorem w_succ (i n : Nat) (h : i < n) (hn : n ≤ 4611686018427387904) : wrap64 ((i : Int) + 1) = ((i + 1 : Nat) : Int) := by
 unfold wrap64
 omega
theorem common_l (a b : ByteArray) (hs : a.size = b.size) (hn : a.size ≤ 4611686018427387904) : ∀ (d i : Nat), a.size - i = d → ∃ r, Ev (fun k => addr_Common.l0 k a b (a.size : Int) (i : Int)) r
 | 0, i, h => ⟨_, Ev.step (f := fun _ => some (wrap64 (8 * (a.size : Int)))) (fun k => by simp only [addr_Common.l0]; rw [if_neg (by omega)]) (Ev.now _)⟩
 | d + 1, i, h => by
  have hlt : i < a.size := by omega
  by_cases hz : Go.bits .xor .u8 (bt a i) (bt b i) = 0
  ·obtain ⟨r, hr⟩ := common_l a b hs hn d (i + 1) (by omega)
   refine ⟨r, Ev.step (fun k => ?_) hr⟩
   simp only [addr_Common.l0]
   rw [if_pos (by omega), if_pos (by omega), if_pos (by omega), if_pos (by omega), if_pos hz, w_succ i _ hlt hn]
  ·obtain ⟨z, hl⟩ := lz_some _ (bt_xor a b i).1 (bt_xor a b i).2
   refine ⟨_, Ev.step (f := fun _ => some (wrap64 ((wrap64 (8 * (i : Int))) + z))) (fun k => ?_) (Ev.now _)⟩
   simp only [addr_Common.l0]
   rw [if_pos (by omega), if_pos (by omega), if_pos (by omega), if_pos (by omega), if_neg hz, hl]
   rfl
theorem is_some (a : ByteArray) : addr_Is.f a = some (decide (a.size = 4 ∨ a.size = 16)) := by
 unfold addr_Is.f
 by_cases h : a.size = 4
 ·rw [if_pos (by omega)]; simp [h]
 ·rw [if_neg (by omega)]
  by_cases h2 : a.size = 16
  ·simp [h, h2]
  ·simp [h, h2]; omega
theorem common_j (a b : ByteArray) (hs : a.size = b.size) (hn : a.size ≤ 4611686018427387904) (t : Bool) : ∃ r, Ev (fun k => addr_Common.j0 k a b t) r := by
 cases t with
 | true => exact ⟨_, Ev.step (f := fun _ => some 0) (fun k => by simp [addr_Common.j0]) (Ev.now _)⟩
 | false =>
  obtain ⟨r, hr⟩ := common_l a b hs hn _ 0 rfl
  exact ⟨r, Ev.step (fun k => by simp only [addr_Common.j0]; rw [if_neg (by decide)]; rfl) hr⟩
theorem common_some (a b : ByteArray) : ∃ r, Ev (fun k => addr_Common.f k a b) r := by
 by_cases hs : a.size = b.size
 ·by_cases hi : a.size = 4 ∨ a.size = 16
  ·obtain ⟨r, hr⟩ := common_j a b hs (by omega) false
   refine ⟨r, Ev.congr (fun k => ?_) hr⟩
   unfold addr_Common.f
   rw [if_pos (by omega), is_some, decide_eq_true hi]
   rfl
  ·refine ⟨0, Ev.congr (f := fun k => addr_Common.j0 k a b true) (fun k => ?_) (Ev.step (f := fun _ => some 0) (fun k => by simp [addr_Common.j0]) (Ev.now _))⟩
   unfold addr_Common.f
   rw [if_pos (by omega), is_some, decide_eq_false hi]
   rfl
 ·refine ⟨0, Ev.congr (f := fun k => addr_Common.j0 k a b true) (fun k => ?_) (Ev.step (f := fun _ => some 0) (fun k => by simp [addr_Common.j0]) (Ev.now _))⟩
  unfold addr_Common.f
  rw [if_neg (by omega)]
theorem in_some (a b : ByteArray) (n : Int) : ∃ r, Ev (fun k => addr_In.f k a b n) r := by
 obtain ⟨c, K, hK⟩ := common_some a b
 by_cases h1 : (a.size : Int) = (b.size : Int)
 ·by_cases h2 : a.size = 4 ∨ a.size = 16
  ·by_cases h3 : n ≥ 0
   ·by_cases h4 : n ≤ wrap64 (8 * (a.size : Int))
    ·refine ⟨decide (c ≥ n), K, fun k hk => ?_⟩
     show addr_In.f k a b n = _
     unfold addr_In.f
     rw [if_pos h1, is_some, decide_eq_true h2]
     simp only [Option.bind_some, if_true]
     rw [if_pos h3, if_pos h4, show addr_Common.f k a b = some c from hK k hk]
     rfl
    ·refine ⟨false, 0, fun k _ => ?_⟩
     show addr_In.f k a b n = _
     unfold addr_In.f
     rw [if_pos h1, is_some, decide_eq_true h2]
     simp only [Option.bind_some, if_true]
     rw [if_pos h3, if_neg h4]
   ·refine ⟨false, 0, fun k _ => ?_⟩
    show addr_In.f k a b n = _
    unfold addr_In.f
    rw [if_pos h1, is_some, decide_eq_true h2]
    simp only [Option.bind_some, if_true]
    rw [if_neg h3]
  ·refine ⟨false, 0, fun k _ => ?_⟩
   show addr_In.f k a b n = _
   unfold addr_In.f
   rw [if_pos h1, is_some, decide_eq_false h2]
   rfl
 ·refine ⟨false, 0, fun k _ => ?_⟩
  show addr_In.f k a b n = _
  unfold addr_In.f
  rw [if_neg h1]
theorem wide_some (a : ByteArray) : ∃ r, selecttab_wide.f a = some r := by
 unfold selecttab_wide.f
 by_cases h : (a.size : Int) = 4
 ·rw [if_pos h, if_pos (by omega)]; exact ⟨_, rfl⟩
 ·rw [if_neg h]; exact ⟨_, rfl⟩
theorem row_l (a : ByteArray) (R : List S52) (hn : R.length ≤ 4611686018427387904) : ∀ (d i : Nat) (x y z : Int), R.length - i = d → ∃ r, Ev (fun k => selecttab_Row.l0 k a x y z R (R.length : Int) (i : Int)) r
 | 0, i, x, y, z, h => ⟨_, Ev.step (f := fun _ => some (x, y)) (fun k => by simp only [selecttab_Row.l0]; rw [if_neg (by omega)]) (Ev.now _)⟩
 | d + 1, i, x, y, z, h => by
  have hlt : i < R.length := by omega
  obtain ⟨w, hw⟩ := wide_some a
  obtain ⟨t, ht⟩ := in_some w (rd_T52 R i).f0 (rd_T52 R i).f1
  have hs := w_succ i _ hlt hn
  cases t with
  | false =>
   obtain ⟨r, hr⟩ := row_l a R hn d (i + 1) x y z (by omega)
   refine ⟨r, Ev.step (f := fun k => (addr_In.f k w (rd_T52 R i).f0 (rd_T52 R i).f1).bind fun t => if t = true then (if ((rd_T52 R i).f1) > z then (selecttab_Row.l0 k a ((rd_T52 R i).f2) ((rd_T52 R i).f3) ((rd_T52 R i).f1) R (R.length : Int) ((i + 1 : Nat) : Int)) else (selecttab_Row.l0 k a x y z R (R.length : Int) ((i + 1 : Nat) : Int))) else (selecttab_Row.l0 k a x y z R (R.length : Int) ((i + 1 : Nat) : Int))) (fun k => ?_) (Ev.bind ht (Ev.congr (fun k => ?_) hr))⟩
   ·simp only [selecttab_Row.l0]
    rw [if_pos (by omega), if_pos (by omega), if_pos (by omega), hw, hs]
    rfl
   ·rw [if_neg (by decide)]
  | true =>
   by_cases hg : ((rd_T52 R i).f1) > z
   ·obtain ⟨r, hr⟩ := row_l a R hn d (i + 1) ((rd_T52 R i).f2) ((rd_T52 R i).f3) ((rd_T52 R i).f1) (by omega)
    refine ⟨r, Ev.step (f := fun k => (addr_In.f k w (rd_T52 R i).f0 (rd_T52 R i).f1).bind fun t => if t = true then (if ((rd_T52 R i).f1) > z then (selecttab_Row.l0 k a ((rd_T52 R i).f2) ((rd_T52 R i).f3) ((rd_T52 R i).f1) R (R.length : Int) ((i + 1 : Nat) : Int)) else (selecttab_Row.l0 k a x y z R (R.length : Int) ((i + 1 : Nat) : Int))) else (selecttab_Row.l0 k a x y z R (R.length : Int) ((i + 1 : Nat) : Int))) (fun k => ?_) (Ev.bind ht (Ev.congr (fun k => ?_) hr))⟩
    ·simp only [selecttab_Row.l0]
     rw [if_pos (by omega), if_pos (by omega), if_pos (by omega), hw, hs]
     rfl
    ·rw [if_pos rfl, if_pos hg]
   ·obtain ⟨r, hr⟩ := row_l a R hn d (i + 1) x y z (by omega)
    refine ⟨r, Ev.step (f := fun k => (addr_In.f k w (rd_T52 R i).f0 (rd_T52 R i).f1).bind fun t => if t = true then (if ((rd_T52 R i).f1) > z then (selecttab_Row.l0 k a ((rd_T52 R i).f2) ((rd_T52 R i).f3) ((rd_T52 R i).f1) R (R.length : Int) ((i + 1 : Nat) : Int)) else (selecttab_Row.l0 k a x y z R (R.length : Int) ((i + 1 : Nat) : Int))) else (selecttab_Row.l0 k a x y z R (R.length : Int) ((i + 1 : Nat) : Int))) (fun k => ?_) (Ev.bind ht (Ev.congr (fun k => ?_) hr))⟩
    ·simp only [selecttab_Row.l0]
     rw [if_pos (by omega), if_pos (by omega), if_pos (by omega), hw, hs]
     rfl
    ·rw [if_pos rfl, if_neg hg]
theorem row_some (R : List S52) (O : List ByteArray) (hn : R.length ≤ 4611686018427387904) (a : ByteArray) : ∃ r, Ev (fun k => selecttab_Row.f k R O a) r := by
 by_cases h : a.size = 4 ∨ a.size = 16
 ·obtain ⟨r, hr⟩ := row_l a R hn _ 0 1 40 (-1) rfl
  refine ⟨r, Ev.congr (fun k => ?_) hr⟩
  unfold selecttab_Row.f
  rw [is_some, decide_eq_true h]
  rfl
 ·refine ⟨(1, 40), Ev.congr (fun k => ?_) (Ev.now _)⟩
  unfold selecttab_Row.f
  rw [is_some, decide_eq_false h]
  rfl
theorem scope_j1 (a : ByteArray) (h : a.size = 16) (t : Bool) : ∃ r, Ev (fun k => selecttab_Scope.j1 k a t) r := by
 refine ⟨_, Ev.step (f := fun _ => if t = true then (some 2) else (if (bt a 0) = 255 then (some (wrap64 (Go.bits .and .u8 (bt a 1) 15))) else (some 14))) (fun k => ?_) (r := if t = true then 2 else (if (bt a 0) = 255 then (wrap64 (Go.bits .and .u8 (bt a 1) 15)) else 14)) ⟨0, fun k _ => ?_⟩⟩
 ·simp only [selecttab_Scope.j1]
  rw [if_pos (show 0 < (a.size : Int) by omega), if_pos (show 1 < (a.size : Int) by omega)]
 ·split
  ·rfl
  ·split <;> rfl
theorem scope_j0 (a : ByteArray) (t : Bool) : ∃ r, Ev (fun k => selecttab_Scope.j0 k a t) r := by
 cases t with
 | true => exact ⟨2, Ev.step (f := fun _ => some 2) (fun k => by simp [selecttab_Scope.j0]) (Ev.now _)⟩
 | false =>
  by_cases h4 : (a.size : Int) = 4
  ·exact ⟨14, Ev.step (f := fun _ => some 14) (fun k => by simp only [selecttab_Scope.j0]; rw [if_neg (by decide), if_pos h4]) (Ev.now _)⟩
  ·by_cases h16 : (a.size : Int) = 16
   ·by_cases hb : a.toList = ([0, 0, 0, 0, 0, 0, 0, 0, 0, 0, 0, 0, 0, 0, 0, 1] : List UInt8)
    ·obtain ⟨r, hr⟩ := scope_j1 a (by omega) true
     exact ⟨r, Ev.step (fun k => by simp only [selecttab_Scope.j0]; rw [if_neg (by decide), if_neg h4, if_pos h16, if_pos hb]) hr⟩
    ·by_cases h254 : bt a 0 = 254
     ·obtain ⟨r, hr⟩ := scope_j1 a (by omega) ((Go.bits .and .u8 (bt a 1) 192) == 128)
      exact ⟨r, Ev.step (fun k => by simp only [selecttab_Scope.j0]; rw [if_neg (by decide), if_neg h4, if_pos h16, if_neg hb, if_pos (by omega), if_pos h254, if_pos (by omega)]) hr⟩
     ·obtain ⟨r, hr⟩ := scope_j1 a (by omega) false
      exact ⟨r, Ev.step (fun k => by simp only [selecttab_Scope.j0]; rw [if_neg (by decide), if_neg h4, if_pos h16, if_neg hb, if_pos (by omega), if_neg h254]) hr⟩
   ·exact ⟨0, Ev.step (f := fun _ => some 0) (fun k => by simp only [selecttab_Scope.j0]; rw [if_neg (by decide), if_neg h4, if_neg h16]) (Ev.now _)⟩
theorem scope_some (a : ByteArray) : ∃ r, Ev (fun k => selecttab_Scope.f k a) r := by
 by_cases h4 : (a.size : Int) = 4
 ·by_cases h127 : bt a 0 = 127
  ·obtain ⟨r, hr⟩ := scope_j0 a true
   exact ⟨r, Ev.congr (fun k => by unfold selecttab_Scope.f; rw [if_pos h4, if_pos (by omega), if_pos h127]) hr⟩
  ·by_cases h169 : bt a 0 = 169
   ·obtain ⟨r, hr⟩ := scope_j0 a ((bt a 1) == 254)
    exact ⟨r, Ev.congr (fun k => by unfold selecttab_Scope.f; rw [if_pos h4, if_pos (by omega), if_neg h127, if_pos h169, if_pos (by omega)]) hr⟩
   ·obtain ⟨r, hr⟩ := scope_j0 a false
    exact ⟨r, Ev.congr (fun k => by unfold selecttab_Scope.f; rw [if_pos h4, if_pos (by omega), if_neg h127, if_neg h169]) hr⟩
 ·obtain ⟨r, hr⟩ := scope_j0 a false
  exact ⟨r, Ev.congr (fun k => by unfold selecttab_Scope.f; rw [if_neg h4]) hr⟩
theorem worse_some (b : Bool) : order_worse.f b = some (if b = true then 1 else 0) := by
 unfold order_worse.f
 split <;> rfl
theorem keys_some (R : List S52) (O : List ByteArray) (hn : R.length ≤ 4611686018427387904) (p q : ByteArray) : ∃ r, Ev (fun k => order_Keys.f k R O p q) r := by
 obtain ⟨r1, e1⟩ := row_some R O hn p
 obtain ⟨r2, e2⟩ := row_some R O hn q
 obtain ⟨s1, e3⟩ := scope_some p
 obtain ⟨s2, e4⟩ := scope_some q
 obtain ⟨c, e5⟩ := common_some p q
 obtain ⟨K1, h1⟩ := e1
 obtain ⟨K2, h2⟩ := e2
 obtain ⟨K3, h3⟩ := e3
 obtain ⟨K4, h4⟩ := e4
 obtain ⟨K5, h5⟩ := e5
 by_cases hq : q.toList = ([] : List UInt8)
 ·refine ⟨(if (q.toList == ([] : List UInt8)) = true then 1 else 0, if true = true then 1 else 0, if true = true then 1 else 0, wrap64 (-r1.2), s1, wrap64 (-c)), K1 + K2 + K3 + K4 + K5, fun k hk => ?_⟩
  show order_Keys.f k R O p q = _
  unfold order_Keys.f
  rw [show selecttab_Row.f k R O p = some r1 from h1 k (by omega), show selecttab_Row.f k R O q = some r2 from h2 k (by omega), show selecttab_Scope.f k p = some s1 from h3 k (by omega), show addr_Common.f k p q = some c from h5 k (by omega)]
  simp only [Option.bind_some, worse_some]
  rw [if_pos hq]
 ·refine ⟨(if (q.toList == ([] : List UInt8)) = true then 1 else 0, if (s1 != s2) = true then 1 else 0, if (r1.1 != r2.1) = true then 1 else 0, wrap64 (-r1.2), s1, wrap64 (-c)), K1 + K2 + K3 + K4 + K5, fun k hk => ?_⟩
  show order_Keys.f k R O p q = _
  unfold order_Keys.f
  rw [show selecttab_Row.f k R O p = some r1 from h1 k (by omega), show selecttab_Row.f k R O q = some r2 from h2 k (by omega), show selecttab_Scope.f k p = some s1 from h3 k (by omega), show selecttab_Scope.f k q = some s2 from h4 k (by omega), show addr_Common.f k p q = some c from h5 k (by omega)]
  simp only [Option.bind_some, worse_some]
  rw [if_neg hq]
end Go.Proofs.Ytlfhahnceeoegaa.All
end
section
set_option linter.unusedVariables false
set_option linter.unusedSimpArgs false
namespace Go.Proofs.Ytlfhahnceeoegaa.All
open Go.Proofs Go.Sort
def cmpL : List Int → List Int → Int
 | x :: xs, y :: ys => if ci x y = 0 then cmpL xs ys else ci x y
 | _, _ => 0
theorem cmp6_eq (a b : S35) : cmp6 a b = cmpL (six a) (six b) := by
 simp only [cmp6, six, cmpL]
 repeat (first | rfl | split)
theorem ci_lt (x y : Int) : ci x y < 0 ↔ x < y := by unfold ci; split <;> (try split) <;> omega
theorem ci_zero (x y : Int) : ci x y = 0 ↔ x = y := by unfold ci; split <;> (try split) <;> omega
theorem cmpL_refl : ∀ l : List Int, cmpL l l = 0
 | [] => rfl
 | x :: xs => by
  simp only [cmpL]
  rw [if_pos ((ci_zero x x).2 rfl)]
  exact cmpL_refl xs
theorem cmpL_le : ∀ (a b c : List Int), a.length = b.length → b.length = c.length → ¬ cmpL b a < 0 → ¬ cmpL c b < 0 → ¬ cmpL c a < 0
 | [], [], [], _, _, _, _ => by simp [cmpL]
 | x :: xs, y :: ys, z :: zs, h1, h2, h3, h4 => by
  simp only [cmpL] at h3 h4 ⊢
  have hi := cmpL_le xs ys zs (by simpa using h1) (by simpa using h2)
  by_cases e1 : ci y x = 0
  ·have f1 := (ci_zero y x).1 e1
   rw [if_pos e1] at h3
   by_cases e2 : ci z y = 0
   ·have f2 := (ci_zero z y).1 e2
    rw [if_pos e2] at h4
    rw [if_pos ((ci_zero z x).2 (by omega))]
    exact hi h3 h4
   ·rw [if_neg e2] at h4
    have f2 := (not_congr (ci_lt z y)).1 h4
    have g2 := (not_congr (ci_zero z y)).1 e2
    rw [if_neg ((not_congr (ci_zero z x)).2 (by omega))]
    exact (not_congr (ci_lt z x)).2 (by omega)
  ·rw [if_neg e1] at h3
   have f1 := (not_congr (ci_lt y x)).1 h3
   have g1 := (not_congr (ci_zero y x)).1 e1
   have f2 : ¬ z < y := by
    by_cases e2 : ci z y = 0
    ·have := (ci_zero z y).1 e2; omega
    ·rw [if_neg e2] at h4; exact (not_congr (ci_lt z y)).1 h4
   rw [if_neg ((not_congr (ci_zero z x)).2 (by omega))]
   exact (not_congr (ci_lt z x)).2 (by omega)
theorem cmpL_trans : ∀ (a b c : List Int), a.length = b.length → b.length = c.length → cmpL a b < 0 → cmpL b c < 0 → cmpL a c < 0
 | [], [], [], _, _, h, _ => by simp [cmpL] at h
 | x :: xs, y :: ys, z :: zs, h1, h2, h3, h4 => by
  simp only [cmpL] at h3 h4 ⊢
  have hi := cmpL_trans xs ys zs (by simpa using h1) (by simpa using h2)
  by_cases e1 : ci x y = 0
  ·have f1 := (ci_zero x y).1 e1
   rw [if_pos e1] at h3
   by_cases e2 : ci y z = 0
   ·have f2 := (ci_zero y z).1 e2
    rw [if_pos e2] at h4
    rw [if_pos ((ci_zero x z).2 (by omega))]
    exact hi h3 h4
   ·rw [if_neg e2] at h4
    have f2 := (ci_lt y z).1 h4
    rw [if_neg ((not_congr (ci_zero x z)).2 (by omega))]
    exact (ci_lt x z).2 (by omega)
  ·rw [if_neg e1] at h3
   have f1 := (ci_lt x y).1 h3
   have f2 : ¬ z < y := by
    by_cases e2 : ci y z = 0
    ·have := (ci_zero y z).1 e2; omega
    ·rw [if_neg e2] at h4; have := (ci_lt y z).1 h4; omega
   rw [if_neg ((not_congr (ci_zero x z)).2 (by omega))]
   exact (ci_lt x z).2 (by omega)
theorem swo : SWO (ltOf cmpK) where
 irrefl x := by simp [ltOf, cmpK, cmp6_eq, cmpL_refl]
 trans x y z h1 h2 := by
  simp only [ltOf, cmpK, cmp6_eq, decide_eq_true_eq] at h1 h2 ⊢
  exact cmpL_trans (six x.f1) (six y.f1) (six z.f1) rfl rfl h1 h2
 ntrans x y z h1 h2 := by
  simp only [ltOf, cmpK, cmp6_eq, decide_eq_false_iff_not] at h1 h2 ⊢
  exact cmpL_le (six z.f1) (six y.f1) (six x.f1) rfl rfl h2 h1
def isort (l : List S59) : List S59 := insertionS l 0 l.length
theorem isort_length (l : List S59) : (isort l).length = l.length := by
 unfold isort
 rw [insertionS_eq, Array.length_toList, size_insertionSort]
 simp
theorem isort_perm (l : List S59) : (isort l).Perm l := by
 unfold isort
 rw [insertionS_eq]
 have h := (insertionSort_holds (lt := ltOf cmpK) swo l.toArray 0 l.length (Nat.zero_le _) (by simp)).1
 have h2 := h.2.2
 have e1 : (Sort.insertionSort (ltOf cmpK) l.toArray 0 l.length).extract 0 l.length = Sort.insertionSort (ltOf cmpK) l.toArray 0 l.length := Array.extract_eq_self_of_le (by rw [h.1]; simp)
 have e2 : l.toArray.extract 0 l.length = l.toArray := Array.extract_eq_self_of_le (by simp)
 rw [e1, e2] at h2
 simpa using h2
theorem isort_sorted (l : List S59) (i j : Nat) (hij : i < j) (hj : j < l.length) : ltOf cmpK (isort l).toArray[j]! (isort l).toArray[i]! = false := by
 unfold isort
 rw [insertionS_eq]
 have h := (insertionSort_holds (lt := ltOf cmpK) swo l.toArray 0 l.length (Nat.zero_le _) (by simp)).2
 have := h i j (Nat.zero_le _) hij hj
 simpa using this
theorem insertionS_none (l : List S59) (a : Nat) : insertionS l a a = l := by
 unfold insertionS
 rw [show a - (a + 1) = 0 by omega]
 simp [insS]
end Go.Proofs.Ytlfhahnceeoegaa.All
end
section
set_option linter.unusedVariables false
set_option linter.unusedSimpArgs false
namespace Go.Proofs.Ytlfhahnceeoegaa.All
open Go.RowKit Go.Proofs.YtlfhahnceeoegaaW.PrintWords Go.Proofs.YtlfhahnceeoegaaW.PrintLast Go.Proofs.YtlfhahnceeoegaaW.PrintMore
theorem ins_some (l : List S59) (a b : Nat) (hab : a ≤ b) (hb : b ≤ l.length) (hl : l.length ≤ 20) : order_keyed_53.f l (a : Int) (b : Int) 26 = some (insertionS l a b) := by
 unfold order_keyed_53.f
 rw [if_pos ⟨rfl, by omega, by omega, by omega, by omega⟩, Int.toNat_natCast, Int.toNat_natCast]
theorem stable_l1 (l : List S59) (n : Nat) (hn : n ≤ 20) : Ev (fun k => order_keyed_43.l1 k l (n : Int) 26 20) l :=
 Ev.step (f := fun _ => some l) (fun k => by simp only [order_keyed_43.l1]; rw [if_neg (by omega)]) (Ev.now _)
theorem stable_some (l : List S59) (hl : l.length ≤ 20) : Ev (fun k => order_keyed_25.f k l 26) (isort l) := by
 unfold order_keyed_25.f
 refine Ev.bind (a := isort l) ?_ (Ev.now _)
 unfold order_keyed_43.f
 by_cases h20 : l.length = 20
 ·have e1 : order_keyed_53.f l 0 20 26 = some (isort l) := by
   have := ins_some l 0 20 (by omega) (by omega) hl
   unfold isort
   rw [h20]
   exact this
  have e2 : order_keyed_53.f (isort l) 20 20 26 = some (isort l) := by
   have := ins_some (isort l) 20 20 (by omega) (by rw [isort_length]; omega) (by rw [isort_length]; omega)
   rw [insertionS_none] at this
   exact this
  rw [h20]
  refine Ev.step (f := fun k => order_keyed_43.l0 k (isort l) ((20 : Nat) : Int) 26 20 20 40) (fun k => ?_) ?_
  ·simp only [order_keyed_43.l0]
   rw [if_pos (by omega), e1, show wrap64 ((20 : Int) + 20) = 40 by unfold wrap64; omega]
   rfl
  ·refine Ev.step (f := fun k => order_keyed_43.l1 k (isort l) ((20 : Nat) : Int) 26 20) (fun k => ?_) (stable_l1 _ _ (by omega))
   simp only [order_keyed_43.l0]
   rw [if_neg (by omega)]
   rw [show (((20 : Nat) : Int)) = 20 from rfl, e2]
   rfl
 ·have e1 : order_keyed_53.f l 0 (l.length : Int) 26 = some (isort l) := ins_some l 0 l.length (by omega) (by omega) hl
  refine Ev.step (f := fun k => order_keyed_43.l1 k (isort l) (l.length : Int) 26 20) (fun k => ?_) (stable_l1 _ _ hl)
  simp only [order_keyed_43.l0]
  rw [if_neg (by omega), e1]
  rfl
theorem collect (M : List S59) (hM : M.length ≤ 20) : ∀ (d i : Nat) (acc : List S34), M.length - i = d → acc.length ≤ i → i ≤ M.length → Ev (fun k => order_Sort.l1 k acc M (M.length : Int) (i : Int)) (acc ++ (M.drop i).map (·.f0))
 | 0, i, acc, h, ha, hi => by
  refine Ev.step (f := fun _ => some acc) (fun k => ?_) ?_
  ·simp only [order_Sort.l1]; rw [if_neg (by omega)]
  ·rw [List.drop_eq_nil_of_le (by omega)]
   simpa using Ev.now acc
 | d + 1, i, acc, h, ha, hi => by
  have hlt : i < M.length := by omega
  have hr := collect M hM d (i + 1) (acc ++ [(rd_T59 M i).f0]) (by omega) (by simp; omega) (by omega)
  have e : acc ++ [(rd_T59 M i).f0] ++ (M.drop (i + 1)).map (·.f0) = acc ++ (M.drop i).map (·.f0) := by
   have hp : rd_T59 M i = M[i] := by simp [rd_T59, List.getD_eq_getElem?_getD, List.getElem?_eq_getElem hlt]
   rw [List.drop_eq_getElem_cons hlt, List.map_cons, hp, List.append_assoc]
   rfl
  rw [e] at hr
  refine Ev.step (fun k => ?_) hr
  simp only [order_Sort.l1]
  rw [if_pos (by omega), if_pos (by omega), if_pos (by omega), if_pos (by omega), w_succ i _ hlt (by omega)]
theorem sort_l0 (R : List S52) (O : List ByteArray) (kd : S34 → S59) (h0 : ∀ p, (kd p).f0 = p) (hk : ∀ p, Ev (fun k => order_Keys.f k R O p.f0 p.f1) ((kd p).f1.f0, (kd p).f1.f1, (kd p).f1.f2, (kd p).f1.f3, (kd p).f1.f4, (kd p).f1.f5))
  (L : List S34) (hL : L.length ≤ 20) : ∀ (d i : Nat) (acc : List S59), L.length - i = d → i ≤ L.length → acc.length = i → Ev (fun k => order_Sort.l0 k acc L (L.length : Int) (i : Int) R O) ((isort (acc ++ (L.drop i).map kd)).map (·.f0))
 | 0, i, acc, h, hi, ha => by
  rw [List.drop_eq_nil_of_le (by omega), List.map_nil, List.append_nil]
  refine Ev.step (f := fun k => (order_keyed_25.f k acc 26).bind fun t => order_Sort.l1 k ([] : List S34) t (acc.length : Int) 0) (fun k => ?_) (Ev.bind (stable_some acc (by omega)) ?_)
  ·simp only [order_Sort.l0]
   rw [if_neg (by omega)]
  ·have := collect (isort acc) (by rw [isort_length]; omega) _ 0 [] rfl (Nat.le_refl _) (Nat.zero_le _)
   rw [isort_length] at this
   simpa using this
 | d + 1, i, acc, h, hi, ha => by
  have hlt : i < L.length := by omega
  have hp : rd_T34 L i = L[i] := by simp [rd_T34, List.getD_eq_getElem?_getD, List.getElem?_eq_getElem hlt]
  have hr := sort_l0 R O kd h0 hk L hL d (i + 1) (acc ++ [kd L[i]]) (by omega) (by omega) (by simp; omega)
  have e : acc ++ [kd L[i]] ++ (L.drop (i + 1)).map kd = acc ++ (L.drop i).map kd := by
   rw [List.drop_eq_getElem_cons hlt, List.map_cons, List.append_assoc]
   rfl
  rw [e] at hr
  refine Ev.step (f := fun k => (order_Keys.f k R O (L[i]).f0 (L[i]).f1).bind fun bt => order_Sort.l0 k (acc ++ [(⟨(⟨(L[i]).f0, (L[i]).f1⟩ : S34), (⟨bt.1, bt.2.1, bt.2.2.1, bt.2.2.2.1, bt.2.2.2.2.1, bt.2.2.2.2.2⟩ : S35)⟩ : S59)]) L (L.length : Int) ((i + 1 : Nat) : Int) R O) (fun k => ?_) (Ev.bind (hk L[i]) ?_)
  ·simp only [order_Sort.l0]
   rw [if_pos (by omega), if_pos (by omega), if_pos (by omega), hp, w_succ i _ hlt (by omega)]
   congr 1
   funext bt
   rw [if_pos (by omega)]
  ·have ek : (⟨(⟨(L[i]).f0, (L[i]).f1⟩ : S34), (⟨(kd L[i]).f1.f0, (kd L[i]).f1.f1, (kd L[i]).f1.f2, (kd L[i]).f1.f3, (kd L[i]).f1.f4, (kd L[i]).f1.f5⟩ : S35)⟩ : S59) = kd L[i] := by
    have := h0 L[i]
    generalize kd L[i] = x at this ⊢
    rw [← this]
   simp only
   rw [ek]
   exact hr
theorem sort_some (R : List S52) (O : List ByteArray) (hn : R.length ≤ 4611686018427387904) : ∃ kd : S34 → S59, (∀ p, (kd p).f0 = p) ∧ (∀ p, Ev (fun k => order_Keys.f k R O p.f0 p.f1) ((kd p).f1.f0, (kd p).f1.f1, (kd p).f1.f2, (kd p).f1.f3, (kd p).f1.f4, (kd p).f1.f5)) ∧
  ∀ L : List S34, L.length ≤ 20 → Ev (fun k => order_Sort.f k R O L) ((isort (L.map kd)).map (·.f0)) := by
 have hk : ∀ p : S34, ∃ x : S59, x.f0 = p ∧ Ev (fun k => order_Keys.f k R O p.f0 p.f1) (x.f1.f0, x.f1.f1, x.f1.f2, x.f1.f3, x.f1.f4, x.f1.f5) := by
  intro p
  obtain ⟨⟨r0, r1, r2, r3, r4, r5⟩, hr⟩ := keys_some R O hn p.f0 p.f1
  exact ⟨⟨p, ⟨r0, r1, r2, r3, r4, r5⟩⟩, rfl, hr⟩
 refine ⟨fun p => Classical.choose (hk p), fun p => (Classical.choose_spec (hk p)).1, fun p => (Classical.choose_spec (hk p)).2, fun L hL => ?_⟩
 exact sort_l0 R O _ (fun p => (Classical.choose_spec (hk p)).1) (fun p => (Classical.choose_spec (hk p)).2) L hL _ 0 [] rfl (Nat.zero_le _) rfl
end Go.Proofs.Ytlfhahnceeoegaa.All
end
section
set_option linter.unusedVariables false
set_option linter.unusedSimpArgs false
set_option maxRecDepth 100000
namespace Go.Proofs.Ytlfhahnceeoegaa.All
open Go.RowKit Go.Proofs.YtlfhahnceeoegaaW.PrintWords Go.Proofs.YtlfhahnceeoegaaW.PrintLast Go.Proofs.YtlfhahnceeoegaaW.PrintMore
def Tot {α : Type} (g : Nat → Option α) (p : α → Prop) : Prop := ∃ r, p r ∧ Ev g r
section
variable {α β : Type} {g f : Nat → Option α} {p : α → Prop} {q : β → Prop}
theorem Tot.now {r : α} (h : p r) : Tot (fun _ => some r) p := ⟨r, h, Ev.now r⟩
theorem Tot.step (h : ∀ k, g (k + 1) = f k) (t : Tot f p) : Tot g p := by
 obtain ⟨r, hp, he⟩ := t
 exact ⟨r, hp, Ev.step h he⟩
theorem Tot.congr (h : ∀ k, g k = f k) (t : Tot f p) : Tot g p := by
 obtain ⟨r, hp, he⟩ := t
 exact ⟨r, hp, Ev.congr h he⟩
theorem Tot.bind {F : Nat → α → Option β} (t : Tot g p) (h : ∀ a, p a → Tot (fun n => F n a) q) : Tot (fun n => (g n).bind (F n)) q := by
 obtain ⟨a, hp, he⟩ := t
 obtain ⟨b, hq, hb⟩ := h a hp
 exact ⟨b, hq, Ev.bind he hb⟩
theorem Tot.imp {p' : α → Prop} (t : Tot g p) (h : ∀ a, p a → p' a) : Tot g p' := by
 obtain ⟨r, hp, he⟩ := t
 exact ⟨r, h r hp, he⟩
end
theorem wid (x : Int) (h0 : -4611686018427387904 ≤ x) (h1 : x ≤ 4611686018427387904) : wrap64 x = x := by
 unfold wrap64
 omega
theorem wsuc (i : Nat) (h : i < 4611686018427387904) : wrap64 ((i : Int) + 1) = ((i + 1 : Nat) : Int) := by
 unfold wrap64
 omega
theorem num_l (a : ByteArray) (m : Int) (hn : a.size ≤ 1000000) : ∀ (d i : Nat) (v : Int), a.size - i = d → Tot (fun k => conciergeref2_Num.l0 k a m v (i : Int)) (fun _ => True)
 | 0, i, v, h => by
  by_cases hv : v > m
  ·exact Tot.step (f := fun _ => some (0, false)) (fun k => by simp only [conciergeref2_Num.l0]; rw [if_neg (by omega), if_pos hv]) (Tot.now trivial)
  ·exact Tot.step (f := fun _ => some (v, true)) (fun k => by simp only [conciergeref2_Num.l0]; rw [if_neg (by omega), if_neg hv]) (Tot.now trivial)
 | d + 1, i, v, h => by
  by_cases h1 : bt a i < 48
  ·exact Tot.step (f := fun _ => some (0, false)) (fun k => by simp only [conciergeref2_Num.l0]; rw [if_pos (by omega), if_pos (by omega), if_pos h1]) (Tot.now trivial)
  ·by_cases h2 : bt a i > 57
   ·exact Tot.step (f := fun _ => some (0, false)) (fun k => by simp only [conciergeref2_Num.l0]; rw [if_pos (by omega), if_pos (by omega), if_neg h1, if_pos h2]) (Tot.now trivial)
   ·exact Tot.step (fun k => by simp only [conciergeref2_Num.l0]; rw [if_pos (by omega), if_pos (by omega), if_neg h1, if_neg h2, wsuc i (by omega)]) (num_l a m hn d (i + 1) (wrap64 ((wrap64 (10 * v)) + (((bt a i) - 48) % 256))) (by omega))
theorem num_j (a : ByteArray) (m : Int) (hn : a.size ≤ 1000000) (t : Bool) : Tot (fun k => conciergeref2_Num.j0 k a m t) (fun _ => True) := by
 cases t with
 | true => exact Tot.step (f := fun _ => some (0, false)) (fun k => by simp [conciergeref2_Num.j0]) (Tot.now trivial)
 | false => exact Tot.step (fun k => by simp only [conciergeref2_Num.j0]; rw [if_neg (by decide)]; rfl) (num_l a m hn _ 0 0 rfl)
theorem num_tot (a : ByteArray) (m : Int) : Tot (fun k => conciergeref2_Num.f k a m) (fun _ => True) := by
 unfold conciergeref2_Num.f
 by_cases h1 : (a.size : Int) < 1
 ·refine Tot.congr (f := fun k => conciergeref2_Num.j0 k a m true) (fun k => by rw [if_pos h1]) (Tot.step (f := fun _ => some (0, false)) (fun k => by simp [conciergeref2_Num.j0]) (Tot.now trivial))
 ·by_cases h2 : (a.size : Int) > 9
  ·refine Tot.congr (f := fun k => conciergeref2_Num.j0 k a m true) (fun k => by rw [if_neg h1, if_pos h2]) (Tot.step (f := fun _ => some (0, false)) (fun k => by simp [conciergeref2_Num.j0]) (Tot.now trivial))
  ·by_cases h3 : bt a 0 = 48
   ·exact Tot.congr (fun k => by rw [if_neg h1, if_neg h2, if_pos (by omega), if_pos h3]) (num_j a m (by omega) _)
   ·exact Tot.congr (fun k => by rw [if_neg h1, if_neg h2, if_pos (by omega), if_neg h3]) (num_j a m (by omega) _)
theorem split_l (a : ByteArray) (c : Int) (hn : a.size ≤ 1000000) : ∀ (d st i : Nat) (acc : List ByteArray), a.size + 1 - i = d → st ≤ i → i ≤ a.size + 1 → acc.length ≤ i → (∀ s ∈ acc, s.size ≤ a.size) → Tot (fun k => conciergeref2_Split.l0 k a c acc (st : Int) (i : Int)) (fun r => r.length ≤ a.size + 1 ∧ ∀ s ∈ r, s.size ≤ a.size)
 | 0, st, i, acc, h, hs, hi, ha, hz => Tot.step (f := fun _ => some acc) (fun k => by simp only [conciergeref2_Split.l0]; rw [if_neg (by omega)]) (Tot.now ⟨by omega, hz⟩)
 | d + 1, st, i, acc, h, hs, hi, ha, hz => by
  have hz1 : ∀ s ∈ acc ++ [a.extract ((st : Int)).toNat ((i : Int)).toNat], s.size ≤ a.size := by
   intro s hs
   rcases List.mem_append.1 hs with h1 | h1
   ·exact hz s h1
   ·rw [List.mem_singleton.1 h1, ByteArray.size_extract]; omega
  have h1 := split_l a c hn d (i + 1) (i + 1) (acc ++ [a.extract ((st : Int)).toNat ((i : Int)).toNat]) (by omega) (by omega) (by omega) (by simp; omega) hz1
  by_cases e : (i : Int) = (a.size : Int)
  ·refine Tot.step (fun k => ?_) h1
   simp only [conciergeref2_Split.l0]
   rw [if_pos (by omega), if_pos e, if_pos (by omega), if_pos (by omega), if_pos (by omega), wsuc i (by omega)]
  ·by_cases hc : bt a i = c
   ·refine Tot.step (fun k => ?_) h1
    simp only [conciergeref2_Split.l0]
    rw [if_pos (by omega), if_neg e, if_pos (by omega), if_pos (by omega), if_pos hc, if_pos (by omega), if_pos (by omega), if_pos (by omega), wsuc i (by omega)]
   ·refine Tot.step (fun k => ?_) (split_l a c hn d st (i + 1) acc (by omega) (by omega) (by omega) (by omega) hz)
    simp only [conciergeref2_Split.l0]
    rw [if_pos (by omega), if_neg e, if_pos (by omega), if_pos (by omega), if_neg hc, wsuc i (by omega)]
theorem split_tot (a : ByteArray) (c : Int) (hn : a.size ≤ 1000000) : Tot (fun k => conciergeref2_Split.f k a c) (fun r => r.length ≤ a.size + 1 ∧ ∀ s ∈ r, s.size ≤ a.size) := split_l a c hn _ 0 0 [] rfl (by omega) (by omega) (by simp) (by simp)
theorem strOfNums_size (l : List Int) : (strOfNums l).size = l.length := by simp [strOfNums, ByteArray.size]
theorem four_l (L : List ByteArray) (hL : L.length = 4) : ∀ (d i : Nat) (acc : List Int), 4 - i = d → i ≤ 4 → acc.length = i → Tot (fun k => conciergeref2_four.l0 k L acc (i : Int)) (fun r => r.1.size ≤ 4)
 | 0, i, acc, h, hi, ha => Tot.step (f := fun _ => some (strOfNums acc, true)) (fun k => by simp only [conciergeref2_four.l0]; rw [if_neg (by omega)]) (Tot.now (by simp only [strOfNums_size]; omega))
 | d + 1, i, acc, h, hi, ha => by
  refine Tot.step (f := fun k => (conciergeref2_Num.f k (rdOf ByteArray.empty L i) 255).bind fun bt116 => (if bt116.2 = true then (if acc.length < 140737488355328 then (conciergeref2_four.l0 k L (acc ++ [(bt116.1) % 256]) (wrap64 ((i : Int) + 1))) else (none)) else (some ((⟨#[]⟩ : ByteArray), false)))) (fun k => ?_) (Tot.bind (num_tot _ _) fun r _ => ?_)
  ·simp only [conciergeref2_four.l0]
   rw [if_pos (by omega), if_pos (by omega), if_pos (by omega)]
  ·by_cases hr : r.2 = true
   ·exact Tot.congr (fun k => by rw [if_pos hr, if_pos (by omega), wsuc i (by omega)]) (four_l L hL d (i + 1) (acc ++ [r.1 % 256]) (by omega) (by omega) (by simp [ha]))
   ·exact Tot.congr (fun k => by rw [if_neg hr]) (Tot.now (by simp [ByteArray.size]))
theorem four_tot (a : ByteArray) (hn : a.size ≤ 1000000) : Tot (fun k => conciergeref2_four.f k a) (fun r => r.1.size ≤ 4) := by
 unfold conciergeref2_four.f
 refine Tot.bind (split_tot a 46 hn) fun L hL => ?_
 by_cases h : (L.length : Int) = 4
 ·exact Tot.congr (fun k => by rw [if_pos h]; rfl) (four_l L (by omega) 4 0 [] rfl (by omega) rfl)
 ·exact Tot.congr (fun k => by rw [if_neg h]) (Tot.now (by simp [ByteArray.size]))
theorem hex_tot (x : Int) : Tot (fun k => conciergeref2_hex.f k x) (fun _ => True) := by
 have j1 : ∀ t, Tot (fun k => conciergeref2_hex.j1 k x t) (fun _ => True) := by
  intro t
  refine Tot.step (f := fun _ => if t = true then (some (((x - 97) % 256) + 10)) else (if x ≥ 65 then (if x ≤ 70 then (some (((x - 65) % 256) + 10)) else (some (-1))) else (some (-1)))) (fun k => by simp only [conciergeref2_hex.j1]) ?_
  split
  ·exact Tot.now trivial
  ·split
   ·split <;> exact Tot.now trivial
   ·exact Tot.now trivial
 have j0 : ∀ t, Tot (fun k => conciergeref2_hex.j0 k x t) (fun _ => True) := by
  intro t
  cases t with
  | true => exact Tot.step (f := fun _ => some ((x - 48) % 256)) (fun k => by simp [conciergeref2_hex.j0]) (Tot.now trivial)
  | false =>
   by_cases h : x ≥ 97
   ·exact Tot.step (fun k => by simp only [conciergeref2_hex.j0]; rw [if_neg (by decide), if_pos h]) (j1 _)
   ·exact Tot.step (fun k => by simp only [conciergeref2_hex.j0]; rw [if_neg (by decide), if_neg h]) (j1 _)
 unfold conciergeref2_hex.f
 by_cases h : x ≥ 48
 ·exact Tot.congr (fun k => by rw [if_pos h]) (j0 _)
 ·exact Tot.congr (fun k => by rw [if_neg h]) (j0 _)
theorem rd_size {L : List ByteArray} {n : Nat} (h : ∀ s ∈ L, s.size ≤ n) (i : Int) : (rdOf ByteArray.empty L i).size ≤ n := by
 unfold rdOf
 rw [List.getD_eq_getElem?_getD]
 by_cases hi : i.toNat < L.length
 ·rw [List.getElem?_eq_getElem hi]
  exact h _ (List.getElem_mem hi)
 ·rw [List.getElem?_eq_none (by omega)]
  exact Nat.zero_le _
section
variable (t : Bool) (L : List ByteArray) (i : Nat) (hi : i < L.length) (hl : L.length ≤ 1000001) (hz : ∀ s ∈ L, s.size ≤ 1000000) (acc : List Int) (ha : acc.length ≤ 4 * i)
 (nx : ∀ acc' : List Int, acc'.length ≤ 4 * (i + 1) → Tot (fun k => conciergeref2_groups.l0 k t L acc' ((i + 1 : Nat) : Int)) (fun r => r.1.length ≤ 4 * L.length))
include hi hl hz ha nx
theorem groups_l1 : ∀ (d j : Nat) (v : Int), (rdOf ByteArray.empty L i).size - j = d → Tot (fun k => conciergeref2_groups.l1 k t L acc (i : Int) v (j : Int)) (fun r => r.1.length ≤ 4 * L.length)
 | 0, j, v, h => by
  refine Tot.step (fun k => ?_) (nx (acc ++ [(wrap64 (Int.tdiv v 256)) % 256, (Int.tmod v 256) % 256]) (by simp; omega))
  simp only [conciergeref2_groups.l1]
  rw [if_pos (by omega), if_pos (by omega), if_neg (by omega)]
  simp only [Option.bind_some]
  rw [if_pos (by simp; omega), wsuc i (by omega)]
 | d + 1, j, v, h => by
  have hzi := rd_size hz (i : Int)
  refine Tot.step (f := fun k => (conciergeref2_hex.f k (bt (rdOf ByteArray.empty L (i : Int)) (j : Int))).bind fun t134 => (if t134 < 0 then (some (([] : List Int), false)) else (conciergeref2_groups.l1 k t L acc (i : Int) (wrap64 ((wrap64 (16 * v)) + t134)) (wrap64 ((j : Int) + 1))))) (fun k => ?_) (Tot.bind (hex_tot _) fun r _ => ?_)
  ·simp only [conciergeref2_groups.l1]
   rw [if_pos (by omega), if_pos (by omega), if_pos (by omega), if_pos (by omega)]
  ·by_cases hr : r < 0
   ·exact Tot.congr (fun k => by rw [if_pos hr]) (Tot.now (by simp))
   ·exact Tot.congr (fun k => by rw [if_neg hr, wsuc j (by omega)]) (groups_l1 d (j + 1) _ (by omega))
theorem groups_j3 (b : Bool) : Tot (fun k => conciergeref2_groups.j3 k t L acc (i : Int) b) (fun r => r.1.length ≤ 4 * L.length) := by
 cases b with
 | true => exact Tot.step (f := fun _ => some (([] : List Int), false)) (fun k => by simp [conciergeref2_groups.j3]) (Tot.now (by simp))
 | false => exact Tot.step (fun k => by simp only [conciergeref2_groups.j3]; rw [if_neg (by decide)]; rfl) (groups_l1 t L i hi hl hz acc ha nx _ 0 0 rfl)
theorem groups_j2 : Tot (fun k => conciergeref2_groups.j2 k t L acc (i : Int)) (fun r => r.1.length ≤ 4 * L.length) := by
 by_cases h : ((rdOf ByteArray.empty L (i : Int)).size : Int) < 1
 ·exact Tot.step (fun k => by simp only [conciergeref2_groups.j2]; rw [if_pos (by omega), if_pos (by omega), if_pos h]) (groups_j3 t L i hi hl hz acc ha nx true)
 ·exact Tot.step (fun k => by simp only [conciergeref2_groups.j2]; rw [if_pos (by omega), if_pos (by omega), if_neg h]) (groups_j3 t L i hi hl hz acc ha nx _)
theorem groups_j1 (b : Bool) : Tot (fun k => conciergeref2_groups.j1 k t L acc (i : Int) b) (fun r => r.1.length ≤ 4 * L.length) := by
 cases b with
 | false => exact Tot.step (fun k => by simp only [conciergeref2_groups.j1]; rw [if_neg (by decide)]) (groups_j2 t L i hi hl hz acc ha nx)
 | true =>
  refine Tot.step (f := fun k => (conciergeref2_four.f k (rdOf ByteArray.empty L (i : Int))).bind fun bt125 => (if bt125.2 = true then (if acc.length + bt125.1.size < 140737488355328 then (conciergeref2_groups.l0 k t L (acc ++ bytesOf bt125.1) (wrap64 ((i : Int) + 1))) else (none)) else (conciergeref2_groups.j2 k t L acc (i : Int)))) (fun k => ?_) (Tot.bind (four_tot _ (rd_size hz _)) fun r hr => ?_)
  ·simp only [conciergeref2_groups.j1]
   rw [if_pos trivial, if_pos (by omega), if_pos (by omega)]
  ·by_cases hb : r.2 = true
   ·exact Tot.congr (fun k => by rw [if_pos hb, if_pos (by omega), wsuc i (by omega)]) (nx _ (by rw [List.length_append, bytesOf_length]; omega))
   ·exact Tot.congr (fun k => by rw [if_neg hb]) (groups_j2 t L i hi hl hz acc ha nx)
end
theorem groups_l0 (t : Bool) (L : List ByteArray) (hl : L.length ≤ 1000001) (hz : ∀ s ∈ L, s.size ≤ 1000000) : ∀ (d i : Nat) (acc : List Int), L.length - i = d → i ≤ L.length → acc.length ≤ 4 * i → Tot (fun k => conciergeref2_groups.l0 k t L acc (i : Int)) (fun r => r.1.length ≤ 4 * L.length)
 | 0, i, acc, h, hi, ha => Tot.step (f := fun _ => some (acc, true)) (fun k => by simp only [conciergeref2_groups.l0]; rw [if_neg (by omega)]) (Tot.now (by simp only; omega))
 | d + 1, i, acc, h, hi, ha => by
  have nx := fun acc' (h' : acc'.length ≤ 4 * (i + 1)) => groups_l0 t L hl hz d (i + 1) acc' (by omega) (by omega) h'
  cases t with
  | true => exact Tot.step (fun k => by simp only [conciergeref2_groups.l0]; rw [if_pos (by omega), if_pos trivial]) (groups_j1 true L i (by omega) hl hz acc ha nx _)
  | false => exact Tot.step (fun k => by simp only [conciergeref2_groups.l0]; rw [if_pos (by omega), if_neg (by decide)]) (groups_j1 false L i (by omega) hl hz acc ha nx _)
theorem groups_tot (a : ByteArray) (t : Bool) (hn : a.size ≤ 1000000) : Tot (fun k => conciergeref2_groups.f k a t) (fun r => r.1.length ≤ 8000000) := by
 unfold conciergeref2_groups.f
 by_cases h : a.toList = ([] : List UInt8)
 ·exact Tot.congr (fun k => by rw [if_pos h]) (Tot.now (by simp))
 ·refine Tot.congr (fun k => by rw [if_neg h]) (Tot.bind (split_tot a 58 hn) fun L hL => ?_)
  exact (groups_l0 t L (by omega) (fun s hs => by have := hL.2 s hs; omega) _ 0 [] rfl (by omega) (by simp)).imp fun r hr => by omega
theorem parse_l0 (a : ByteArray) (hn : a.size ≤ 1000000) : ∀ (d i : Nat), a.size - i = d → i ≤ a.size → Tot (fun k => conciergeref2_Parse.l0 k a (i : Int)) (fun _ => True) := by
 have hend : ∀ i : Nat, ¬ ((i : Int) + 1 < (a.size : Int)) → i ≤ a.size → Tot (fun k => conciergeref2_Parse.l0 k a (i : Int)) (fun _ => True) := by
  intro i h hi
  refine Tot.step (f := fun k => (conciergeref2_groups.f k a true).bind fun bt138 => (if bt138.2 = true then (if (bt138.1.length : Int) = 16 then (some (strOfNums bt138.1, true)) else (some ((⟨#[]⟩ : ByteArray), false))) else (some ((⟨#[]⟩ : ByteArray), false)))) (fun k => ?_) (Tot.bind (groups_tot a true hn) fun r _ => ?_)
  ·simp only [conciergeref2_Parse.l0]
   rw [wsuc i (by omega), if_neg (by omega)]
  ·split
   ·split <;> exact Tot.now trivial
   ·exact Tot.now trivial
 intro d
 induction d with
 | zero => intro i h hi; exact hend i (by omega) hi
 | succ d ih =>
  intro i h hi
  by_cases he : (i : Int) + 1 < (a.size : Int)
  ·have nx : Tot (fun k => conciergeref2_Parse.j1 k a (i : Int) true) (fun _ => True) := Tot.step (fun k => by simp only [conciergeref2_Parse.j1]; rw [if_pos trivial, wsuc i (by omega)]) (ih (i + 1) (by omega) (by omega))
   have fin : Tot (fun k => conciergeref2_Parse.j1 k a (i : Int) false) (fun _ => True) := by
    have e2 : wrap64 ((i : Int) + 2) = (i : Int) + 2 := wid _ (by omega) (by omega)
    have z1 : (a.extract 0 ((i : Int)).toNat).size ≤ 1000000 := by rw [ByteArray.size_extract]; omega
    have z2 : (a.extract ((i : Int) + 2).toNat a.size).size ≤ 1000000 := by rw [ByteArray.size_extract]; omega
    refine Tot.step (f := fun k => (conciergeref2_groups.f k (a.extract 0 ((i : Int)).toNat) false).bind fun bt142 => (conciergeref2_groups.f k (a.extract ((i : Int) + 2).toNat a.size) true).bind fun bt146 => (if bt142.2 = true then (if bt146.2 = true then (if (wrap64 ((bt142.1.length : Int) + (bt146.1.length : Int))) > 14 then (some ((⟨#[]⟩ : ByteArray), false)) else (if 16 ≤ 281474976710656 then ((some (List.replicate 16 0 : List Int)).bind fun y150 => (if 0 ≤ (wrap64 (16 - (bt146.1.length : Int))) then (if (wrap64 (16 - (bt146.1.length : Int))) ≤ (y150.length : Int) then (pj bt142.1 bt146.1) else (none)) else (none))) else (none))) else (some ((⟨#[]⟩ : ByteArray), false))) else (some ((⟨#[]⟩ : ByteArray), false)))) (fun k => ?_) (Tot.bind (groups_tot _ _ z1) fun r1 h1 => Tot.bind (groups_tot _ _ z2) fun r2 h2 => ?_)
    ·simp only [conciergeref2_Parse.j1]
     rw [if_neg (by decide), if_pos (by omega), if_pos (by omega), e2]
     simp only [if_pos (show (0 : Int) ≤ (i : Int) + 2 by omega), if_pos (show (i : Int) + 2 ≤ (a.size : Int) by omega)]
    ·rw [wid ((r1.1.length : Int) + (r2.1.length : Int)) (by omega) (by omega), wid (16 - (r2.1.length : Int)) (by omega) (by omega)]
     split
     ·split
      ·split
       ·exact Tot.now trivial
       ·rename_i hs
        refine ⟨(strOfNums (r1.1 ++ List.replicate (16 - r1.1.length - r2.1.length) 0 ++ r2.1), true), trivial, Ev.congr (fun k => ?_) (Ev.now _)⟩
        rw [if_pos (by decide)]
        simp only [Option.bind_some]
        rw [if_pos (by omega), if_pos (by simp; omega)]
        unfold pj
        rw [if_pos (by omega)]
      ·exact Tot.now trivial
     ·exact Tot.now trivial
   have hj : ∀ b, Tot (fun k => conciergeref2_Parse.j1 k a (i : Int) b) (fun _ => True) := fun b => by cases b; exact fin; exact nx
   by_cases hc : bt a i = 58
   ·refine Tot.step (fun k => ?_) (hj (bt a (wrap64 ((i : Int) + 1)) != 58))
    simp only [conciergeref2_Parse.l0]
    rw [if_pos (by rw [wsuc i (by omega)]; omega), if_pos (by omega), if_pos (by omega), if_pos hc, if_pos (by rw [wsuc i (by omega)]; omega)]
   ·refine Tot.step (fun k => ?_) nx
    simp only [conciergeref2_Parse.l0]
    rw [if_pos (by rw [wsuc i (by omega)]; omega), if_pos (by omega), if_pos (by omega), if_neg hc]
  ·exact hend i he hi
theorem parse_tot (a : ByteArray) (hn : a.size ≤ 1000000) : Tot (fun k => conciergeref2_Parse.f k a) (fun _ => True) := by
 unfold conciergeref2_Parse.f
 refine Tot.bind (four_tot a hn) fun r _ => ?_
 by_cases h : r.2 = true
 ·exact Tot.congr (fun k => by rw [if_pos h]) (Tot.now trivial)
 ·exact Tot.congr (fun k => by rw [if_neg h]; rfl) (parse_l0 a hn _ 0 rfl (by omega))
theorem row_tot (a : ByteArray) (x y : Int) (hn : a.size ≤ 1000000) : Tot (fun k => conciergeref15_row.f k a x y) (fun _ => True) := by
 have j0 : ∀ (s : ByteArray) (n : Int) (b : Bool), Tot (fun k => conciergeref15_row.j0 k x y s n b) (fun _ => True) := by
  intro s n b
  have hm : ∃ m, conciergeref15_mapped.f s = some m := by
   unfold conciergeref15_mapped.f
   by_cases h : (s.size : Int) = 4
   ·rw [if_pos h, if_pos (by omega)]; exact ⟨_, rfl⟩
   ·rw [if_neg h]; exact ⟨_, rfl⟩
  obtain ⟨m, hm⟩ := hm
  refine Tot.step (f := fun _ => if b = true then (some ((⟨#[]⟩ : ByteArray), (0 : Int), (0 : Int), (0 : Int), false)) else (if (s.size : Int) = 4 then some (m, wrap64 (n + 96), x, y, true) else some (m, n, x, y, true))) (fun k => by simp only [conciergeref15_row.j0, hm, Option.bind_some]) ?_
  split
  ·exact Tot.now trivial
  ·split <;> exact Tot.now trivial
 unfold conciergeref15_row.f
 refine Tot.bind (split_tot a 47 hn) fun L hL => ?_
 by_cases h2 : (L.length : Int) = 2
 ·refine Tot.congr (f := fun k => (conciergeref2_Parse.f k (rdOf ByteArray.empty L 0)).bind fun bt146 => ((conciergeref2_Num.f k (rdOf ByteArray.empty L 1) (wrap64 (8 * (bt146.1.size : Int)))).bind fun bt149 => (if bt146.2 = true then (conciergeref15_row.j0 k x y bt146.1 bt149.1 (!bt149.2)) else (conciergeref15_row.j0 k x y bt146.1 bt149.1 true)))) (fun k => ?_) (Tot.bind (parse_tot _ (by have := rd_size hL.2 0; omega)) fun r1 _ => Tot.bind (num_tot _ _) fun r2 _ => ?_)
  ·rw [if_pos h2, if_pos (by omega)]
   simp only [if_pos (show (1 : Int) < (L.length : Int) by omega)]
  ·split
   ·exact j0 _ _ _
   ·exact j0 _ _ _
 ·exact Tot.congr (fun k => by rw [if_neg h2]) (Tot.now trivial)
theorem blank_some (x : Int) : ∃ b, conciergeref2_blank.f x = some b := by
 unfold conciergeref2_blank.f
 split
 ·exact ⟨_, rfl⟩
 ·split <;> exact ⟨_, rfl⟩
def wordsOk (n : Nat) (r : List ByteArray) : Prop := r.length ≤ n ∧ ∀ s ∈ r, s.size ≤ 1000000
theorem one_l0 (l : List Int) (hl : l.length ≤ 100000) : ∀ (d i : Nat) (acc : List ByteArray) (w : ByteArray) (b : Bool), l.length - i = d → i ≤ l.length → acc.length ≤ i → (∀ s ∈ acc, s.size ≤ 1000000) → w.size ≤ i →
  Tot (fun k => conciergeref2_one.l0 k l acc w b (i : Int)) (wordsOk (l.length + 1))
 | 0, i, acc, w, b, h, hi, ha, hz, hw => by
  by_cases he : w.toList = ([] : List UInt8)
  ·exact Tot.step (f := fun _ => some acc) (fun k => by simp only [conciergeref2_one.l0]; rw [if_neg (by omega), if_pos he]) (Tot.now ⟨by omega, hz⟩)
  ·refine Tot.step (f := fun _ => some (acc ++ [w])) (fun k => by simp only [conciergeref2_one.l0]; rw [if_neg (by omega), if_neg he, if_pos (by omega)]) (Tot.now ⟨by simp; omega, fun s hs => ?_⟩)
   rcases List.mem_append.1 hs with h1 | h1
   ·exact hz s h1
   ·rw [List.mem_singleton.1 h1]; omega
 | d + 1, i, acc, w, b, h, hi, ha, hz, hw => by
  have nx := fun acc' w' b' h1 h2 h3 => one_l0 l hl d (i + 1) acc' w' b' (by omega) (by omega) h1 h2 h3
  have hz' : ∀ s ∈ acc ++ [w], s.size ≤ 1000000 := by
   intro s hs
   rcases List.mem_append.1 hs with h1 | h1
   ·exact hz s h1
   ·rw [List.mem_singleton.1 h1]; omega
  have j2 : ∀ (b : Bool) (x : Int), Tot (fun k => conciergeref2_one.j2 k l acc w b (i : Int) x) (wordsOk (l.length + 1)) := by
   intro b x
   cases b with
   | true => exact Tot.step (fun k => by simp only [conciergeref2_one.j2]; rw [if_pos trivial, wsuc i (by omega)]) (nx acc w true (by omega) hz (by omega))
   | false =>
    obtain ⟨q, hq⟩ := blank_some x
    cases q with
    | true =>
     by_cases he : w.toList = ([] : List UInt8)
     ·exact Tot.step (fun k => by simp only [conciergeref2_one.j2, hq, Option.bind_some]; rw [if_neg (by decide), if_pos trivial, if_pos he, wsuc i (by omega)]) (nx acc (⟨#[]⟩ : ByteArray) false (by omega) hz (by simp [ByteArray.size]))
     ·exact Tot.step (fun k => by simp only [conciergeref2_one.j2, hq, Option.bind_some]; rw [if_neg (by decide), if_pos trivial, if_neg he, if_pos (by omega), wsuc i (by omega)]) (nx (acc ++ [w]) (⟨#[]⟩ : ByteArray) false (by simp; omega) hz' (by simp [ByteArray.size]))
    | false =>
     have hs1 : (strOfNums [x]).size = 1 := by rw [strOfNums_size]; rfl
     exact Tot.step (fun k => by simp only [conciergeref2_one.j2, hq, Option.bind_some]; rw [if_neg (by decide), if_neg (by decide), if_pos (by omega), wsuc i (by omega)]) (nx acc (w ++ strOfNums [x]) false (by omega) hz (by rw [ByteArray.size_append]; omega))
  have j1 : ∀ (b : Bool) (x : Int) (q : Bool), Tot (fun k => conciergeref2_one.j1 k l acc w b (i : Int) x q) (wordsOk (l.length + 1)) := by
   intro b x q
   cases q with
   | true => exact Tot.step (f := fun _ => some ([] : List ByteArray)) (fun k => by simp [conciergeref2_one.j1]) (Tot.now ⟨by simp, by simp⟩)
   | false =>
    cases b with
    | true => exact Tot.step (fun k => by simp only [conciergeref2_one.j1]; rw [if_neg (by decide), if_pos trivial]) (j2 true x)
    | false => exact Tot.step (fun k => by simp only [conciergeref2_one.j1]; rw [if_neg (by decide), if_neg (by decide)]) (j2 _ x)
  by_cases h32 : rd l (i : Int) < 32
  ·obtain ⟨q, hq⟩ := blank_some (rd l (i : Int))
   cases q with
   | true => exact Tot.step (fun k => by simp only [conciergeref2_one.l0, hq, Option.bind_some]; rw [if_pos (by omega), if_pos (by omega), if_pos h32, if_pos trivial]) (j1 b _ _)
   | false => exact Tot.step (fun k => by simp only [conciergeref2_one.l0, hq, Option.bind_some]; rw [if_pos (by omega), if_pos (by omega), if_pos h32, if_neg (by decide)]) (j1 b _ true)
  ·exact Tot.step (fun k => by simp only [conciergeref2_one.l0]; rw [if_pos (by omega), if_pos (by omega), if_neg h32]) (j1 b _ _)
theorem one_tot (l : List Int) : Tot (fun k => conciergeref2_one.f k l) (wordsOk 100001) := by
 unfold conciergeref2_one.f
 by_cases h : (l.length : Int) > 512
 ·exact Tot.congr (fun k => by rw [if_pos h]) (Tot.now ⟨by simp, by simp⟩)
 ·exact Tot.congr (fun k => by rw [if_neg h]; rfl) ((one_l0 l (by omega) _ 0 [] (⟨#[]⟩ : ByteArray) false rfl (by omega) (by simp) (by simp) (by simp [ByteArray.size])).imp fun r hr => ⟨by have := hr.1; omega, hr.2⟩)
def linesOk (n : Nat) (r : List S48) : Prop := r.length ≤ n ∧ ∀ x ∈ r, 0 < x.f1.length ∧ wordsOk 100001 x.f1
theorem lines_l0 (l : List Int) (hl : l.length ≤ 100000) : ∀ (d i : Nat) (acc : List S48) (n : Int) (st : Nat), l.length + 1 - i = d → i ≤ l.length + 1 → acc.length ≤ i → st ≤ i → (∀ x ∈ acc, 0 < x.f1.length ∧ wordsOk 100001 x.f1) →
  Tot (fun k => conciergeref2_Lines.l0 k l acc n (st : Int) (i : Int)) (linesOk (l.length + 1))
 | 0, i, acc, n, st, h, hi, ha, hs, hz => Tot.step (f := fun _ => some acc) (fun k => by simp only [conciergeref2_Lines.l0]; rw [if_neg (by omega)]) (Tot.now ⟨by omega, hz⟩)
 | d + 1, i, acc, n, st, h, hi, ha, hs, hz => by
  have j1 : ∀ b : Bool, Tot (fun k => conciergeref2_Lines.j1 k l acc n (st : Int) (i : Int) b) (linesOk (l.length + 1)) := by
   intro b
   cases b with
   | true => exact Tot.step (fun k => by simp only [conciergeref2_Lines.j1]; rw [if_pos trivial, wsuc i (by omega)]) (lines_l0 l hl d (i + 1) acc n st (by omega) (by omega) (by omega) (by omega) hz)
   | false =>
    refine Tot.step (f := fun k => (conciergeref2_one.f k ((l.take ((i : Int)).toNat).drop ((st : Int)).toNat)).bind fun t185 => (if (t185.length : Int) > 0 then (if acc.length < 4398046511104 then (conciergeref2_Lines.l0 k l (acc ++ [(⟨wrap64 (n + 1), t185⟩ : S48)]) (wrap64 (n + 1)) (wrap64 ((i : Int) + 1)) (wrap64 ((i : Int) + 1))) else (none)) else (conciergeref2_Lines.l0 k l acc (wrap64 (n + 1)) (wrap64 ((i : Int) + 1)) (wrap64 ((i : Int) + 1))))) (fun k => ?_) (Tot.bind (one_tot _) fun r hr => ?_)
    ·simp only [conciergeref2_Lines.j1]
     rw [if_neg (by decide), if_pos (by omega), if_pos (by omega), if_pos (by omega)]
    ·by_cases hp : (r.length : Int) > 0
     ·refine Tot.congr (fun k => by rw [if_pos hp, if_pos (by omega), wsuc i (by omega)]) (lines_l0 l hl d (i + 1) _ _ (i + 1) (by omega) (by omega) (by simp; omega) (by omega) fun x hx => ?_)
      rcases List.mem_append.1 hx with h1 | h1
      ·exact hz x h1
      ·rw [List.mem_singleton.1 h1]; exact ⟨by simp only; omega, hr⟩
     ·exact Tot.congr (fun k => by rw [if_neg hp, wsuc i (by omega)]) (lines_l0 l hl d (i + 1) acc _ (i + 1) (by omega) (by omega) (by omega) (by omega) hz)
  by_cases he : (i : Int) < (l.length : Int)
  ·exact Tot.step (fun k => by simp only [conciergeref2_Lines.l0]; rw [if_pos (by omega), if_pos he, if_pos (by omega)]) (j1 _)
  ·exact Tot.step (fun k => by simp only [conciergeref2_Lines.l0]; rw [if_pos (by omega), if_neg he]) (j1 _)
theorem lines_tot (l : List Int) (hl : l.length ≤ 100000) : Tot (fun k => conciergeref2_Lines.f k l) (linesOk (l.length + 1)) := lines_l0 l hl _ 0 [] 0 0 rfl (by omega) (by simp) (by omega) (by simp)
def rows5 : List S52 := [⟨⟨#[0, 0, 0, 0, 0, 0, 0, 0, 0, 0, 0, 0, 0, 0, 0, 1]⟩, 128, 0, 50⟩, ⟨⟨#[0, 0, 0, 0, 0, 0, 0, 0, 0, 0, 0, 0, 0, 0, 0, 0]⟩, 0, 1, 40⟩, ⟨⟨#[0, 0, 0, 0, 0, 0, 0, 0, 0, 0, 255, 255, 0, 0, 0, 0]⟩, 96, 4, 35⟩, ⟨⟨#[32, 2, 0, 0, 0, 0, 0, 0, 0, 0, 0, 0, 0, 0, 0, 0]⟩, 16, 2, 30⟩, ⟨⟨#[252, 0, 0, 0, 0, 0, 0, 0, 0, 0, 0, 0, 0, 0, 0, 0]⟩, 7, 13, 3⟩]
theorem rows_k : ∀ d, conciergeref15_Rows.f (d + 60) = some rows5 := fun d => by kernel_rfl
theorem rows_some : ∃ R, R.length = 5 ∧ Ev (fun k => conciergeref15_Rows.f k) R := ⟨rows5, rfl, 60, fun k hk => by
 obtain ⟨d, rfl⟩ : ∃ d, k = d + 60 := ⟨k - 60, by omega⟩
 exact rows_k d⟩
def selOk (r : List S52 × List ByteArray) : Prop := r.1.length ≤ 32 ∧ r.2.length ≤ 32
theorem select_l0 (M : List S48) (hM : linesOk 100001 M) : ∀ (d i : Nat) (R : List S52) (O : List ByteArray), M.length - i = d → i ≤ M.length → R.length ≤ 32 → O.length ≤ 32 → Tot (fun k => conciergeref15_Select.l0 k M (i : Int) R O) selOk
 | 0, i, R, O, h, hi, hR, hO => by
  by_cases hr : (R.length : Int) = 0
  ·obtain ⟨Q, hQ, hE⟩ := rows_some
   refine Tot.step (f := fun k => (conciergeref15_Rows.f k).bind fun t => some (t, O)) (fun k => by simp only [conciergeref15_Select.l0]; rw [if_neg (by omega), if_pos hr]) ⟨(Q, O), ⟨by simp only; omega, hO⟩, Ev.bind hE (Ev.now _)⟩
  ·exact Tot.step (f := fun _ => some (R, O)) (fun k => by simp only [conciergeref15_Select.l0]; rw [if_neg (by omega), if_neg hr]) (Tot.now ⟨hR, hO⟩)
 | d + 1, i, R, O, h, hi, hR, hO => by
  have hM1 := hM.1
  have hlt : i < M.length := by omega
  have hx : rd_T48 M (i : Int) = M[i] := by show M.getD i _ = _; simp [List.getD_eq_getElem?_getD, List.getElem?_eq_getElem hlt]
  obtain ⟨hpos, hw⟩ := hM.2 _ (List.getElem_mem hlt)
  generalize hm : M[i] = x at *
  have nx := fun R' O' h1 h2 => select_l0 M hM d (i + 1) R' O' (by omega) (by omega) h1 h2
  have j2 : ∀ b : Bool, (b = true → 1 < x.f1.length) → Tot (fun k => conciergeref15_Select.j2 k M (i : Int) x.f1 b R O) selOk := by
   intro b hb
   cases b with
   | false => exact Tot.step (fun k => by simp only [conciergeref15_Select.j2]; rw [if_neg (by decide), wsuc i (by omega)]) (nx R O hR hO)
   | true =>
    have hb' := hb rfl
    refine Tot.step (f := fun k => (conciergeref2_Parse.f k (rdOf ByteArray.empty x.f1 1)).bind fun bt219 => (if bt219.2 = true then (if (O.length : Int) < 32 then (if O.length < 8796093022208 then (conciergeref15_Select.l0 k M (wrap64 ((i : Int) + 1)) R (O ++ [bt219.1])) else (none)) else (conciergeref15_Select.l0 k M (wrap64 ((i : Int) + 1)) R O)) else (conciergeref15_Select.l0 k M (wrap64 ((i : Int) + 1)) R O))) (fun k => ?_) (Tot.bind (parse_tot _ (rd_size hw.2 1)) fun r _ => ?_)
    ·simp only [conciergeref15_Select.j2]
     rw [if_pos trivial, if_pos (by omega)]
    ·rw [wsuc i (by omega)]
     by_cases h1 : r.2 = true
     ·by_cases h2 : (O.length : Int) < 32
      ·exact Tot.congr (fun k => by rw [if_pos h1, if_pos h2, if_pos (by omega)]) (nx R (O ++ [r.1]) hR (by simp; omega))
      ·exact Tot.congr (fun k => by rw [if_pos h1, if_neg h2]) (nx R O hR hO)
     ·exact Tot.congr (fun k => by rw [if_neg h1]) (nx R O hR hO)
  have j1 : ∀ b : Bool, (b = true → x.f1.length = 4) → Tot (fun k => conciergeref15_Select.j1 k M (i : Int) x.f1 b R O) selOk := by
   intro b hb
   cases b with
   | false =>
    by_cases he : (rdOf ByteArray.empty x.f1 0).toList = ([111, 119, 110] : List UInt8)
    ·exact Tot.step (fun k => by simp only [conciergeref15_Select.j1]; rw [if_neg (by decide), if_pos (by omega), if_pos he]) (j2 _ (fun h => by have := beq_iff_eq.1 h; omega))
    ·exact Tot.step (fun k => by simp only [conciergeref15_Select.j1]; rw [if_neg (by decide), if_pos (by omega), if_neg he]) (j2 false (fun h => by cases h))
   | true =>
    have hb' := hb rfl
    refine Tot.step (f := fun k => (conciergeref2_Num.f k (rdOf ByteArray.empty x.f1 2) 1000).bind fun bt202 => (conciergeref2_Num.f k (rdOf ByteArray.empty x.f1 3) 1000).bind fun bt205 => (conciergeref15_row.f k (rdOf ByteArray.empty x.f1 1) bt202.1 bt205.1).bind fun bt208 => (if bt202.2 = true then (if bt205.2 = true then (if bt208.2.2.2.2 = true then (if (R.length : Int) < 32 then (if R.length < 3518437208883 then (conciergeref15_Select.l0 k M (wrap64 ((i : Int) + 1)) (R ++ [(⟨bt208.1, bt208.2.1, bt208.2.2.1, bt208.2.2.2.1⟩ : S52)]) O) else (none)) else (conciergeref15_Select.l0 k M (wrap64 ((i : Int) + 1)) R O)) else (conciergeref15_Select.l0 k M (wrap64 ((i : Int) + 1)) R O)) else (conciergeref15_Select.l0 k M (wrap64 ((i : Int) + 1)) R O)) else (conciergeref15_Select.l0 k M (wrap64 ((i : Int) + 1)) R O))) (fun k => ?_) (Tot.bind (num_tot _ _) fun r1 _ => Tot.bind (num_tot _ _) fun r2 _ => Tot.bind (row_tot _ _ _ (rd_size hw.2 1)) fun r3 _ => ?_)
    ·simp only [conciergeref15_Select.j1]
     rw [if_pos trivial, if_pos (by omega)]
     simp only [if_pos (show (3 : Int) < (x.f1.length : Int) by omega), if_pos (show (1 : Int) < (x.f1.length : Int) by omega)]
    ·rw [wsuc i (by omega)]
     by_cases h1 : r1.2 = true
     ·by_cases h2 : r2.2 = true
      ·by_cases h3 : r3.2.2.2.2 = true
       ·by_cases h4 : (R.length : Int) < 32
        ·exact Tot.congr (fun k => by rw [if_pos h1, if_pos h2, if_pos h3, if_pos h4, if_pos (by omega)]) (nx (R ++ [(⟨r3.1, r3.2.1, r3.2.2.1, r3.2.2.2.1⟩ : S52)]) O (by simp; omega) hO)
        ·exact Tot.congr (fun k => by rw [if_pos h1, if_pos h2, if_pos h3, if_neg h4]) (nx R O hR hO)
       ·exact Tot.congr (fun k => by rw [if_pos h1, if_pos h2, if_neg h3]) (nx R O hR hO)
      ·exact Tot.congr (fun k => by rw [if_pos h1, if_neg h2]) (nx R O hR hO)
     ·exact Tot.congr (fun k => by rw [if_neg h1]) (nx R O hR hO)
  by_cases he : (rdOf ByteArray.empty x.f1 0).toList = ([112, 114, 101, 102, 105, 120] : List UInt8)
  ·exact Tot.step (fun k => by simp only [conciergeref15_Select.l0]; rw [hx, if_pos (by omega), if_pos (by omega), if_pos (by omega), if_pos he]) (j1 _ (fun h => by have := beq_iff_eq.1 h; omega))
  ·exact Tot.step (fun k => by simp only [conciergeref15_Select.l0]; rw [hx, if_pos (by omega), if_pos (by omega), if_pos (by omega), if_neg he]) (j1 false (fun h => by cases h))
theorem select_tot (l : List Int) (hl : l.length ≤ 100000) : Tot (fun k => conciergeref15_Select.f k l) selOk := by
 unfold conciergeref15_Select.f
 refine Tot.bind (lines_tot l hl) fun M hM => ?_
 exact select_l0 M ⟨by have := hM.1; omega, hM.2⟩ _ 0 [] [] rfl (by omega) (by simp) (by simp)
end Go.Proofs.Ytlfhahnceeoegaa.All
end
section
set_option linter.unusedVariables false
set_option linter.unusedSimpArgs false
set_option maxRecDepth 100000
namespace Go.Proofs.Ytlfhahnceeoegaa.All
open Go.RowKit Go.Proofs.YtlfhahnceeoegaaW.PrintWords Go.Proofs.YtlfhahnceeoegaaW.PrintLast Go.Proofs.YtlfhahnceeoegaaW.PrintMore
theorem begun_k : ∀ d, conciergelaw20_begun.f (d + 100) = some true := fun d => by kernel_rfl
theorem begun_true : Ev (fun k => conciergelaw20_begun.f k) true := ⟨100, fun k hk => by
 obtain ⟨d, rfl⟩ : ∃ d, k = d + 100 := ⟨k - 100, by omega⟩
 exact begun_k d⟩
theorem cut_text (a : ByteArray) : ∃ r, conciergelaw2_Cut.f a 20 = some r := by
 unfold conciergelaw2_Cut.f
 by_cases h : (a.size : Int) > 20
 ·rw [if_pos h, if_pos (by omega), if_pos (by omega)]; exact ⟨_, rfl⟩
 ·rw [if_neg h]; exact ⟨_, rfl⟩
theorem cut_l (L : List S34) : ∀ (d i : Nat) (acc : List S34), 20 - i = d → acc.length = i → i ≤ 20 → ∃ r, r.length ≤ 20 ∧ Ev (fun k => conciergelaw20_Cut.l0 k L acc (i : Int)) r
 | d, i, acc, h, ha, hi => by
  by_cases h1 : i < L.length
  ·by_cases h2 : i < 20
   ·match d, h with
    | 0, h => omega
    | d + 1, h =>
     obtain ⟨t0, e0⟩ := cut_text (rd_T34 L (i : Int)).f0
     obtain ⟨t1, e1⟩ := cut_text (rd_T34 L (i : Int)).f1
     obtain ⟨r, hr, hE⟩ := cut_l L d (i + 1) (acc ++ [⟨t0, t1⟩]) (by omega) (by simp [ha]) (by omega)
     refine ⟨r, hr, Ev.step (f := fun k => conciergelaw20_Cut.j1 k L acc (i : Int) true) (fun k => ?_) (Ev.step (fun k => ?_) hE)⟩
     ·simp only [conciergelaw20_Cut.l0]
      rw [if_pos (by omega), decide_eq_true (by omega)]
     ·simp only [conciergelaw20_Cut.j1, if_pos]
      rw [if_pos (by omega), if_pos (by omega), e0, e1]
      simp only [Option.bind]
      rw [if_pos (by omega), w_succ i 21 (by omega) (by omega)]
   ·refine ⟨acc, by omega, Ev.step (f := fun k => conciergelaw20_Cut.j1 k L acc (i : Int) false) (fun k => ?_) (Ev.step (f := fun _ => some acc) (fun k => ?_) (Ev.now _))⟩
    ·simp only [conciergelaw20_Cut.l0]
     rw [if_pos (by omega), decide_eq_false (by omega)]
    ·simp [conciergelaw20_Cut.j1]
  ·refine ⟨acc, by omega, Ev.step (f := fun k => conciergelaw20_Cut.j1 k L acc (i : Int) false) (fun k => ?_) (Ev.step (f := fun _ => some acc) (fun k => ?_) (Ev.now _))⟩
   ·simp only [conciergelaw20_Cut.l0]
    rw [if_neg (by omega)]
   ·simp [conciergelaw20_Cut.j1]
end Go.Proofs.Ytlfhahnceeoegaa.All
end
section
set_option linter.unusedVariables false
set_option linter.unusedSimpArgs false
set_option maxRecDepth 100000
namespace Go.Proofs.Ytlfhahnceeoegaa.All
open Go.RowKit Go.Proofs.YtlfhahnceeoegaaW.PrintWords Go.Proofs.YtlfhahnceeoegaaW.PrintLast Go.Proofs.YtlfhahnceeoegaaW.PrintMore Go.Sort
theorem shortT_some (l : List Int) : ∃ r, r.length ≤ 800 ∧ conciergelaw1_Short.f l 800 = some r := by
 unfold conciergelaw1_Short.f
 by_cases h : (l.length : Int) > 800
 ·rw [if_pos h, if_pos (by omega), if_pos (by omega)]
  exact ⟨_, by rw [List.length_take]; show min 800 l.length ≤ 800; omega, rfl⟩
 ·rw [if_neg h]; exact ⟨l, by omega, rfl⟩
section
variable {R : List S52} {O : List ByteArray} {kd : S34 → S59}
def ltT (kd : S34 → S59) (p q : S34) : Bool := ltOf cmpK (kd p) (kd q)
theorem lessT (hk : ∀ p, Ev (fun k => order_Keys.f k R O p.f0 p.f1) ((kd p).f1.f0, (kd p).f1.f1, (kd p).f1.f2, (kd p).f1.f3, (kd p).f1.f4, (kd p).f1.f5)) (p q : S34) :
  Ev (fun k => order_Less.f k R O p.f0 p.f1 q.f0 q.f1) (ltT kd p q) := by
 unfold order_Less.f
 exact Ev.bind (hk p) (Ev.bind (hk q) (Ev.now _))
variable (hl : ∀ p q, Ev (fun k => order_Less.f k R O p.f0 p.f1 q.f0 q.f1) (ltT kd p q))
section
variable {M : List S34} (hM : M.length ≤ 8)
include hl hM
theorem tot_l2 (i j : Nat) (hi : i < M.length) (hj : j < M.length) (hn : Ev (fun k => conciergelaw20_OrderTotal.l1 k true M (i : Int) ((j + 1 : Nat) : Int) R O) true) :
  ∀ (d n : Nat), M.length - n = d → Ev (fun k => conciergelaw20_OrderTotal.l2 k true M (i : Int) (j : Int) (n : Int) R O) true
 | 0, n, h => Ev.step (fun k => by simp only [conciergelaw20_OrderTotal.l2]; rw [if_neg (by omega), w_succ j 9 (by omega) (by omega)]) hn
 | d + 1, n, h => by
  have next := tot_l2 i j hi hj hn d (n + 1) (by omega)
  have hw : wrap64 ((n : Int) + 1) = ((n + 1 : Nat) : Int) := w_succ n 9 (by omega) (by omega)
  generalize hp : rd_T34 M (i : Int) = p
  generalize hq : rd_T34 M (j : Int) = q
  generalize hr : rd_T34 M (n : Int) = r
  refine Ev.step (f := fun k => (order_Less.f k R O p.f0 p.f1 q.f0 q.f1).bind fun t523 => (if t523 = true then ((order_Less.f k R O q.f0 q.f1 r.f0 r.f1).bind fun t526 => (if t526 = true then ((order_Less.f k R O p.f0 p.f1 r.f0 r.f1).bind fun t529 => (if t529 = true then (conciergelaw20_OrderTotal.l2 k true M (i : Int) (j : Int) ((n + 1 : Nat) : Int) R O) else (some false))) else (conciergelaw20_OrderTotal.l2 k true M (i : Int) (j : Int) ((n + 1 : Nat) : Int) R O))) else (conciergelaw20_OrderTotal.l2 k true M (i : Int) (j : Int) ((n + 1 : Nat) : Int) R O))) (fun k => ?_) (Ev.bind (hl p q) ?_)
  ·simp only [conciergelaw20_OrderTotal.l2]
   rw [if_pos (by omega), if_pos (by omega), if_pos (by omega), if_pos (by omega), if_pos (by omega), hp, hq, hr, hw]
   congr 1
  ·cases h1 : ltT kd p q with
   | false => exact Ev.congr (fun k => if_neg (by decide)) next
   | true =>
    refine Ev.congr (fun k => if_pos rfl) (Ev.bind (hl q r) ?_)
    cases h2 : ltT kd q r with
    | false => exact Ev.congr (fun k => if_neg (by decide)) next
    | true =>
     refine Ev.congr (fun k => if_pos rfl) (Ev.bind (hl p r) ?_)
     have : ltT kd p r = true := swo.trans _ _ _ h1 h2
     rw [this]
     exact Ev.congr (fun k => if_pos rfl) next
theorem tot_l1 (i : Nat) (hi : i < M.length) (hn : Ev (fun k => conciergelaw20_OrderTotal.l0 k true M ((i + 1 : Nat) : Int) R O) true) :
  ∀ (d j : Nat), M.length - j = d → Ev (fun k => conciergelaw20_OrderTotal.l1 k true M (i : Int) (j : Int) R O) true
 | 0, j, h => Ev.step (fun k => by simp only [conciergelaw20_OrderTotal.l1]; rw [if_neg (by omega), w_succ i 9 (by omega) (by omega)]) hn
 | d + 1, j, h => by
  have hj : j < M.length := by omega
  have next := tot_l2 hl hM i j hi hj (tot_l1 i hi hn d (j + 1) (by omega)) M.length 0 (by omega)
  have last : Ev (fun k => conciergelaw20_OrderTotal.j3 k true M (i : Int) (j : Int) false R O) true :=
   Ev.step (fun k => by simp only [conciergelaw20_OrderTotal.j3]; rw [if_neg (by decide)]; rfl) next
  generalize hp : rd_T34 M (i : Int) = p
  generalize hq : rd_T34 M (j : Int) = q
  refine Ev.step (f := fun k => (order_Less.f k R O p.f0 p.f1 q.f0 q.f1).bind fun t517 => (if t517 = true then ((order_Less.f k R O q.f0 q.f1 p.f0 p.f1).bind fun t520 => (conciergelaw20_OrderTotal.j3 k true M (i : Int) (j : Int) t520 R O)) else (conciergelaw20_OrderTotal.j3 k true M (i : Int) (j : Int) false R O))) (fun k => ?_) (Ev.bind (hl p q) ?_)
  ·simp only [conciergelaw20_OrderTotal.l1]
   rw [if_pos (by omega), if_pos (by omega), if_pos (by omega), if_pos (by omega), hp, hq]
  ·cases h1 : ltT kd p q with
   | false => exact Ev.congr (fun k => if_neg (by decide)) last
   | true =>
    refine Ev.congr (fun k => if_pos rfl) (Ev.bind (hl q p) ?_)
    have : ltT kd q p = false := by
     cases h2 : ltT kd q p with
     | false => rfl
     | true => exact absurd (swo.trans _ _ _ h1 h2) (by rw [swo.irrefl]; decide)
    rw [this]
    exact last
theorem tot_l0 {X : List S34} (hs : Ev (fun k => order_Sort.f k R O M) X) (hX : X.length = M.length) (hn : Ev (fun k => conciergelaw20_OrderTotal.l3 k true M X 0 R O) true) :
  ∀ (d i : Nat), M.length - i = d → Ev (fun k => conciergelaw20_OrderTotal.l0 k true M (i : Int) R O) true
 | 0, i, h => by
  refine Ev.step (f := fun k => (order_Sort.f k R O M).bind fun t530 => (if (t530.length : Int) = (M.length : Int) then (conciergelaw20_OrderTotal.l3 k true M t530 0 R O) else (some false))) (fun k => ?_) (Ev.bind hs (Ev.congr (fun k => if_pos (by omega)) hn))
  simp only [conciergelaw20_OrderTotal.l0]
  rw [if_neg (by omega)]
 | d + 1, i, h => by
  have hi : i < M.length := by omega
  refine Ev.step (fun k => ?_) (tot_l1 hl hM i hi (tot_l0 hs hX hn d (i + 1) (by omega)) M.length 0 (by omega))
  simp only [conciergelaw20_OrderTotal.l0]
  rw [if_pos (by omega)]
  rfl
end
def eqP (y p : S34) : Bool := decide (p.f0.toList = y.f0.toList) && decide (p.f1.toList = y.f1.toList)
def cntP (y : S34) (L : List S34) (n : Nat) : Int := ((L.take n).countP (eqP y) : Nat)
theorem cntP_succ (y : S34) (L : List S34) (n : Nat) (h : n < L.length) : cntP y L (n + 1) = cntP y L n + (if eqP y (rd_T34 L (n : Int)) = true then 1 else 0) := by
 unfold cntP
 rw [List.take_succ_eq_append_getElem h, List.countP_append]
 have e : rd_T34 L (n : Int) = L[n] := by simp [rd_T34, List.getD_eq_getElem?_getD, h]
 rw [e]
 simp only [List.countP_singleton]
 split <;> simp
theorem cntP_le (y : S34) (L : List S34) (n : Nat) (h : L.length ≤ 8) : 0 ≤ cntP y L n ∧ cntP y L n ≤ 8 := by
 unfold cntP
 have h1 := List.countP_le_length (p := eqP y) (l := L.take n)
 rw [List.length_take] at h1
 omega
variable {M X : List S34} (hM : M.length ≤ 8) (hX : X.length = M.length) (hp : X.Perm M) (hs : ∀ i j, i < j → j < X.length → ltT kd (rd_T34 X (j : Int)) (rd_T34 X (i : Int)) = false)
include hl hM hX hp hs
theorem tot_l4 (i : Nat) (hi : i < X.length) (hn : Ev (fun k => conciergelaw20_OrderTotal.l3 k true M X ((i + 1 : Nat) : Int) R O) true) :
  ∀ (d n : Nat), X.length - n = d → n ≤ X.length → Ev (fun k => conciergelaw20_OrderTotal.l4 k true M X (i : Int) (cntP (rd_T34 X (i : Int)) X n - cntP (rd_T34 X (i : Int)) M n) (n : Int) R O) true
 | 0, n, h, hle => by
  have e : n = X.length := by omega
  subst e
  have h0 : cntP (rd_T34 X (i : Int)) X X.length - cntP (rd_T34 X (i : Int)) M X.length = 0 := by
   unfold cntP
   rw [List.take_length, hX, List.take_length, hp.countP_eq]
   omega
  rw [h0]
  exact Ev.step (fun k => by simp only [conciergelaw20_OrderTotal.l4]; rw [if_neg (by omega), if_pos trivial, w_succ i 9 (by omega) (by omega)]) hn
 | d + 1, n, h, hle => by
  have hnl : n < X.length := by omega
  have next := tot_l4 i hi hn d (n + 1) (by omega) (by omega)
  rw [cntP_succ _ X n hnl, cntP_succ _ M n (by omega)] at next
  have bX := cntP_le (rd_T34 X (i : Int)) X n (by omega)
  have bM := cntP_le (rd_T34 X (i : Int)) M n (by omega)
  generalize cntP (rd_T34 X (i : Int)) X n = u at next bX ⊢
  generalize cntP (rd_T34 X (i : Int)) M n = v at next bM ⊢
  have hw : wrap64 ((n : Int) + 1) = ((n + 1 : Nat) : Int) := w_succ n 9 (by omega) (by omega)
  have w1 : wrap64 (u - v + 1) = u - v + 1 := by unfold wrap64; omega
  have w2 : wrap64 (u - v - 1) = u - v - 1 := by unfold wrap64; omega
  have w3 : wrap64 (u - v + 1 - 1) = u - v := by unfold wrap64; omega
  have key : Ev (fun k => conciergelaw20_OrderTotal.j7 k true M X (i : Int) (u - v) (n : Int) false R O) true := by
   have j8 : Ev (fun k => conciergelaw20_OrderTotal.j8 k true M X (i : Int) (u - v) (n : Int) (eqP (rd_T34 X (i : Int)) (rd_T34 X (n : Int))) R O) true := by
    refine Ev.step (fun k => ?_) next
    simp only [conciergelaw20_OrderTotal.j8]
    have b0 : (0 : Int) ≤ (n : Int) := by omega
    have b1 : (n : Int) < (M.length : Int) := by omega
    have b2 : (0 : Int) ≤ (i : Int) := by omega
    have b3 : (i : Int) < (X.length : Int) := by omega
    have em : eqP (rd_T34 X (i : Int)) (rd_T34 M (n : Int)) = (decide ((rd_T34 M (n : Int)).f0.toList = (rd_T34 X (i : Int)).f0.toList) && decide ((rd_T34 M (n : Int)).f1.toList = (rd_T34 X (i : Int)).f1.toList)) := rfl
    cases e1 : eqP (rd_T34 X (i : Int)) (rd_T34 X (n : Int)) with
    | true =>
     rw [if_pos rfl, if_pos b0, if_pos b1, if_pos b2, if_pos b3, hw, w1, w3, em]
     by_cases a1 : (rd_T34 M (n : Int)).f0.toList = (rd_T34 X (i : Int)).f0.toList
     ·rw [if_pos a1]
      by_cases a2 : (rd_T34 M (n : Int)).f1.toList = (rd_T34 X (i : Int)).f1.toList
      ·rw [if_pos a2]
       simp only [a1, a2, decide_true, Bool.and_self, if_true]
       congr 1; omega
      ·rw [if_neg a2]
       simp only [a1, a2, decide_true, decide_false, Bool.and_false, if_true]
       congr 1; simp; omega
     ·rw [if_neg a1]
      simp only [a1, decide_false, Bool.false_and, if_true]
      congr 1; simp; omega
    | false =>
     rw [if_neg (by decide), if_pos b0, if_pos b1, if_pos b2, if_pos b3, hw, w2, em]
     by_cases a1 : (rd_T34 M (n : Int)).f0.toList = (rd_T34 X (i : Int)).f0.toList
     ·rw [if_pos a1]
      by_cases a2 : (rd_T34 M (n : Int)).f1.toList = (rd_T34 X (i : Int)).f1.toList
      ·rw [if_pos a2]
       simp only [a1, a2, decide_true, Bool.and_self, if_true]
       congr 1; simp; omega
      ·rw [if_neg a2]
       simp only [a1, a2, decide_true, decide_false, Bool.and_false]
       congr 1; simp
     ·rw [if_neg a1]
      simp only [a1, decide_false, Bool.false_and]
      congr 1; simp
   refine Ev.step (fun k => ?_) j8
   simp only [conciergelaw20_OrderTotal.j7]
   rw [if_neg (by decide), if_pos (by omega), if_pos (by omega), if_pos (by omega), if_pos (by omega)]
   by_cases a1 : (rd_T34 X (n : Int)).f0.toList = (rd_T34 X (i : Int)).f0.toList
   ·rw [if_pos a1]
    congr 1
    simp only [eqP, a1, decide_true, Bool.true_and]
    rw [Bool.eq_iff_iff]
    simp
   ·rw [if_neg a1]
    congr 1
    simp [eqP, a1]
  by_cases hgt : i < n
  ·refine Ev.step (f := fun k => (order_Less.f k R O (rd_T34 X (n : Int)).f0 (rd_T34 X (n : Int)).f1 (rd_T34 X (i : Int)).f0 (rd_T34 X (i : Int)).f1).bind fun t535 => (conciergelaw20_OrderTotal.j7 k true M X (i : Int) (u - v) (n : Int) t535 R O)) (fun k => ?_) (Ev.bind (hl _ _) ?_)
   ·simp only [conciergelaw20_OrderTotal.l4]
    rw [if_pos (by omega), if_pos (by omega), if_pos (by omega), if_pos (by omega), if_pos (by omega)]
   ·rw [hs i n hgt hnl]; exact key
  ·refine Ev.step (fun k => ?_) key
   simp only [conciergelaw20_OrderTotal.l4]
   rw [if_pos (by omega), if_neg (by omega)]
theorem tot_l3 : ∀ (d i : Nat), X.length - i = d → Ev (fun k => conciergelaw20_OrderTotal.l3 k true M X (i : Int) R O) true
 | 0, i, h => Ev.step (f := fun _ => some true) (fun k => by simp only [conciergelaw20_OrderTotal.l3]; rw [if_neg (by omega)]) (Ev.now _)
 | d + 1, i, h => by
  have hi : i < X.length := by omega
  refine Ev.step (fun k => ?_) (tot_l4 hl hM hX hp hs i hi (tot_l3 d (i + 1) (by omega)) X.length 0 (by omega) (by omega))
  simp only [conciergelaw20_OrderTotal.l3]
  rw [if_pos (by omega)]
  rfl
end
theorem total_true (t : List Int) (L : List S34) : ∃ k, conciergelaw20_OrderTotal.f k t L = some true := by
 obtain ⟨s, hs, hse⟩ := shortT_some t
 obtain ⟨⟨R, O⟩, ⟨hR, hO⟩, hSel⟩ := select_tot s (by omega)
 simp only at hR hO
 obtain ⟨kd, h0, hk, hS⟩ := sort_some R O (by omega)
 obtain ⟨C, hC, hCe⟩ := cut_l L 20 0 [] rfl rfl (by omega)
 have all : ∀ M : List S34, M.length ≤ 8 → Ev (fun k => conciergelaw20_OrderTotal.j0 k true M R O) true := fun M hM => by
  have s1 := hS M (by omega)
  have hX : ((isort (M.map kd)).map (fun x : S59 => x.f0)).length = M.length := by
   rw [List.length_map, (isort_perm _).length_eq, List.length_map]
  have hp : ((isort (M.map kd)).map (fun x : S59 => x.f0)).Perm M := by
   have h1 := (isort_perm (M.map kd)).map (fun x : S59 => x.f0)
   rw [List.map_map] at h1
   have h2 : M.map ((fun x : S59 => x.f0) ∘ kd) = M := by
    conv => rhs; rw [← List.map_id M]
    exact List.map_congr_left fun p _ => h0 p
   rwa [h2] at h1
  have back : ∀ y ∈ isort (M.map kd), kd y.f0 = y := fun y hy => by
   have := (isort_perm (M.map kd)).mem_iff.1 hy
   obtain ⟨p, _, rfl⟩ := List.mem_map.1 this
   rw [h0]
  have hlen : (isort (M.map kd)).length = M.length := by rw [(isort_perm _).length_eq, List.length_map]
  have hso : ∀ i j, i < j → j < ((isort (M.map kd)).map (fun x : S59 => x.f0)).length → ltT kd (rd_T34 ((isort (M.map kd)).map (fun x : S59 => x.f0)) (j : Int)) (rd_T34 ((isort (M.map kd)).map (fun x : S59 => x.f0)) (i : Int)) = false := fun i j hij hj => by
   have hj' : j < (isort (M.map kd)).length := by rw [List.length_map] at hj; exact hj
   have e : ∀ n, n < (isort (M.map kd)).length → kd (rd_T34 ((isort (M.map kd)).map (fun x : S59 => x.f0)) (n : Int)) = (isort (M.map kd)).toArray[n]! := fun n hn => by
    have e1 : rd_T34 ((isort (M.map kd)).map (fun x : S59 => x.f0)) (n : Int) = ((isort (M.map kd))[n]).f0 := by
     simp [rd_T34, List.getD_eq_getElem?_getD, hn]
    rw [e1, back _ (List.getElem_mem hn)]
    simp [hn]
   unfold ltT
   rw [e j hj', e i (by omega)]
   exact isort_sorted (M.map kd) i j hij (by rw [List.length_map]; omega)
  refine Ev.step (fun k => ?_) (tot_l0 (lessT hk) hM s1 hX (tot_l3 (lessT hk) hM hX hp hso _ 0 rfl) M.length 0 (by omega))
  simp only [conciergelaw20_OrderTotal.j0]
  rfl
 refine Ev.rounds ?_
 unfold conciergelaw20_OrderTotal.f
 refine Ev.bind begun_true (Ev.congr (fun k => if_pos rfl) ?_)
 rw [hse]
 simp only [Option.bind_some]
 refine Ev.bind hSel ?_
 refine Ev.bind (a := C) hCe ?_
 by_cases h8 : (C.length : Int) > 8
 ·refine Ev.congr (fun k => ?_) (all (C.take 8) (by rw [List.length_take]; omega))
  rw [if_pos h8, if_pos (by omega)]
  rfl
 ·refine Ev.congr (fun k => ?_) (all C (by omega))
  rw [if_neg h8]
end Go.Proofs.Ytlfhahnceeoegaa.All
end
section
set_option linter.unusedVariables false
namespace Go.Proofs.Ytlfhahnceeoegaa.All
open Go.RowKit Go.ChangeShapes Go.WideShapes Go.Deep Go.Proofs.YtlfhahnceeoegaaW.PrintWords
section
variable {H : Type} {enc : TypeId × Value → H} {P : Program} {w : World} {base : Nat} {spare : Nat → Bool} {held : Bool}
theorem open_fields {t e : TypeId} {fs : Array Field} {fuel : Nat} {cs : List Value} {x : DataW H × List MemPlace} (ht : P.underlying t = some (.slice e)) (he : P.underlying e = some (.struct fs))
  (hone : oneCellFields P fs = true) (hC : P.cellsOf e = fs.size) (h : DataW.trod enc P w base spare held fuel t cs = some x) :
  cs = [.slice none 0 0] ∨
  ∃ (a : Addr) (len cap m : Nat), cs = [.slice (some a) len cap] ∧ len ≤ cap ∧ cap ≤ maxLen ∧ m = (if spare a.block then cap else len) ∧
   ∀ i, i < m → ∃ n : Nat, ∀ (j : Nat) (f : Field), fs[j]? = some f → ∃ (v : Value) (y : DataW H × List MemPlace), w.cell? (a.add (i * fs.size + j)) = some v ∧ DataW.trod enc P w base spare held n f.type [v] = some y := by
 rcases open_slice ht h with h0 | ⟨a, len, cap, m, n, D, Pl, hcs, hb, hl, hm, hmm, hx, hi⟩
 ·exact .inl h0.1
 ·refine .inr ⟨a, len, cap, m, hcs, hl, hm, hmm, fun i him => ?_⟩
  obtain ⟨cs', hc, ht'⟩ := hi i him
  rw [hC] at hc
  obtain ⟨ys, n', hn', hy, hlen, hyl, hf⟩ := DataW.trod_struct he ht'
  obtain ⟨_, hcl, hat⟩ := World.cells?_some hc
  refine ⟨n', fun j f hj => ?_⟩
  obtain ⟨ho, hk⟩ := hone_of hone j f hj
  have hjl : j < fs.size := (Array.getElem?_eq_some_iff.1 hj).1
  have hcell := hat j hjl
  have hv : cs'[j]? = some (cs'[j]'(by omega)) := List.getElem?_eq_getElem (by omega)
  have h1 := hf j f hj
  rw [ho, hk] at h1
  have hone' : (cs'.drop j).take 1 = [cs'[j]'(by omega)] := by
   rw [List.drop_eq_getElem_cons (by omega)]
   rfl
  rw [hone'] at h1
  have hys : ys[j]? = some (ys[j]'(by omega)) := List.getElem?_eq_getElem (by omega)
  refine ⟨_, _, ?_, h1.trans hys⟩
  rw [← Go.Deep.add_add, hcell, hv]
end
section
variable {H : Type} {enc : TypeId × Value → H} {P : Program} {W : World} {base : Nat} {held : Bool} {A : Option Addr} {len cap fuel : Nat} {x : DataW H × List MemPlace} {t e : TypeId}
theorem cells_of {α : Type} (en : α → Value) (h1 : ∀ y, (en y).oneCell' = true) (d : α) (ht : P.underlying t = some (.slice e)) (hc1 : P.cellsOf e = 1)
  (hel : ∀ (n : Nat) (cs : List Value) (y : DataW H × List MemPlace), DataW.trod enc P W base (fun _ => true) held n e cs = some y → ∃ v : α, cs = [en v])
  (h : DataW.trod enc P W base (fun _ => true) held fuel t [.slice A len cap] = some x) : ∃ l : List α, l.length = len ∧ len ≤ cap ∧ (Kd.scalar en h1).C W A l.length l := by
 rcases open_slice ht h with h0 | ⟨a, len', cap', m, n, D, Pl, hcs, hb, hl, hm, hmm, hx, hi⟩
 ·have h0 := h0.1
  simp only [List.cons.injEq, Value.slice.injEq, and_true] at h0
  obtain ⟨rfl, rfl, rfl⟩ := h0
  exact ⟨[], rfl, Nat.le_refl _, Kd.C_nil _ _⟩
 ·simp only [List.cons.injEq, Value.slice.injEq, and_true] at hcs
  obtain ⟨rfl, rfl, rfl⟩ := hcs
  have hs : ∀ i, i < len → ∃ v : α, W.cell? (a.add i) = some (en v) := by
   intro i hlt
   obtain ⟨cs', hc, ht'⟩ := hi i (by rw [hmm]; simp; omega)
   rw [hc1] at hc
   obtain ⟨v, rfl⟩ := hel _ _ _ ht'
   obtain ⟨_, hcl, hat⟩ := World.cells?_some hc
   have := hat 0 (by omega)
   exact ⟨v, by rw [Nat.mul_one, Addr.add_zero'] at this; simpa using this⟩
  let f : Nat → α := fun i => if hlt : i < len then Classical.choose (hs i hlt) else d
  refine ⟨(List.range len).map f, by simp, hl, Kd.C_of_reads (d := d) ⟨rfl, by simp only [maxLen] at hm; simp; omega, fun hn => ⟨a, rfl, fun j hj => ?_⟩⟩⟩
  have hlt : j < len := by simpa using hj
  have hf : f j = Classical.choose (hs j hlt) := dif_pos hlt
  rw [Classical.choose_spec (hs j hlt), ← hf]
  simp [List.getD_eq_getElem?_getD, hlt]
theorem nums_of {k : IntKind} (ht : P.underlying t = some (.slice e)) (he : P.underlying e = some (.int k)) (hc1 : P.cellsOf e = 1)
  (h : DataW.trod enc P W base (fun _ => true) held fuel t [.slice A len cap] = some x) : ∃ l : List Int, l.length = len ∧ len ≤ cap ∧ (Kd.int k).C W A l.length l :=
 cells_of (Value.int k) (fun _ => rfl) 0 ht hc1 (fun n cs y hy => by obtain ⟨v, e, _⟩ := DataW.trod_int he hy; exact ⟨v, e⟩) h
end
theorem pairs_of {H : Type} {enc : TypeId × Value → H} {W : World} {base : Nat} {held : Bool} {A : Option Addr} {len cap fuel : Nat} {x : DataW H × List MemPlace}
  (h : DataW.trod enc Try.prog W base (fun _ => true) held fuel 23 [.slice A len cap] = some x) : ∃ l : List S34, l.length = len ∧ len ≤ cap ∧ Kd.C k34 W A l.length l := by
 rcases open_fields Try.underlying23 Try.underlying34 (by kernel_rfl) (by kernel_rfl) h with h0 | ⟨a, len', cap', m, hcs, hl, hm, hmm, hi⟩
 ·simp only [List.cons.injEq, Value.slice.injEq, and_true] at h0
  obtain ⟨rfl, rfl, rfl⟩ := h0
  exact ⟨[], rfl, Nat.le_refl _, Kd.C_nil _ _⟩
 ·simp only [List.cons.injEq, Value.slice.injEq, and_true] at hcs
  obtain ⟨rfl, rfl, rfl⟩ := hcs
  have hs : ∀ i, i < len → ∃ p : S34, W.cell? (a.add (i * 2)) = some (.string p.f0) ∧ W.cell? (a.add (i * 2 + 1)) = some (.string p.f1) := by
   intro i hlt
   obtain ⟨n, hf⟩ := hi i (by rw [hmm]; simp; omega)
   obtain ⟨v0, y0, c0, t0⟩ := hf 0 _ rfl
   obtain ⟨v1, y1, c1, t1⟩ := hf 1 _ rfl
   obtain ⟨s0, e0, _, _⟩ := DataW.trod_string Try.underlying9 t0
   obtain ⟨s1, e1, _, _⟩ := DataW.trod_string Try.underlying9 t1
   simp only [List.cons.injEq, and_true] at e0 e1
   subst e0; subst e1
   exact ⟨⟨s0, s1⟩, c0, c1⟩
  let f : Nat → S34 := fun i => if hlt : i < len then Classical.choose (hs i hlt) else z34
  refine ⟨(List.range len).map f, by simp, hl, by simp, by simp only [maxLen] at hm; simp; omega, fun hn => ⟨a, rfl, fun j p hj => ?_⟩⟩
  have hlt : j < len := by
   have := (List.getElem?_eq_some_iff.1 hj).1
   simpa using this
  have hp : p = f j := by
   have := (List.getElem?_eq_some_iff.1 hj).2
   simpa using this.symm
  have hf : f j = Classical.choose (hs j hlt) := dif_pos hlt
  have hspec := Classical.choose_spec (hs j hlt)
  rw [← hf, ← hp] at hspec
  refine ⟨[.string p.f0, .string p.f1], rfl, k34_mk W p, fun i u hu => ?_⟩
  match i, hu with
  | 0, hu =>
   have : u = .string p.f0 := by simpa using hu.symm
   rw [this]; exact hspec.1
  | 1, hu =>
   have : u = .string p.f1 := by simpa using hu.symm
   rw [this]; exact hspec.2
  | n + 2, hu => simp at hu
end Go.Proofs.Ytlfhahnceeoegaa.All
end
