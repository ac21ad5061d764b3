/- OrderTotal: the order goes through; what is sorted is ordered, and a permutation (text 4 of 8) -/
import Derived.Test.YtlfhahnceeoegaaSt2
import Derived.Test.YtlfhahnceeoegaaSt3
import Derived.Shelf.SlSortCmp.InsertionK
import Derived.Lib.Hide
import Derived.Shelf.SlGeneric
import Derived.Ground.SlsfProg
import Derived.Test.YtlfhahnceeoegaaProg
namespace Go.Proofs.YtlfhahnceeoegaaW.PrintLast
end Go.Proofs.YtlfhahnceeoegaaW.PrintLast
namespace Go.Proofs.YtlfhahnceeoegaaW.PrintMore
end Go.Proofs.YtlfhahnceeoegaaW.PrintMore
namespace Go.Proofs.YtlfhahnceeoegaaW.PrintWords
end Go.Proofs.YtlfhahnceeoegaaW.PrintWords
section
namespace Go.Proofs.Ytlfhahnceeoegaa.All
open Go.RowKit Go.Proofs.YtlfhahnceeoegaaW.PrintWords Go.Proofs.YtlfhahnceeoegaaW.PrintLast Go.Proofs.YtlfhahnceeoegaaW.PrintMore
set_option linter.unusedVariables false
set_option linter.unusedSimpArgs false
def bits_LeadingZeros8.f (a0 : Int) : Option (Int) := (bits_Len8.f a0).bind fun t224 => (some (wrap64 (8 - t224)))
set_option maxHeartbeats 8000000 in
set_option maxRecDepth 100000 in
theorem bits_LeadingZeros8.calls (a0 : Int) (r : Int) (w : World) (h : bits_LeadingZeros8.f a0 = some r) :
  Calls Try.prog 48 #[.int .u8 a0] w fun e w' => e = .returned (.int .i64 r) ∧ Drawn0 w w' := by
 have H : ((bits_Len8.f a0).bind fun t224 => (some (wrap64 (8 - t224)))) = some r := h
 clear h
 replace H := Option.bind_eq_some_iff.mp H
 obtain ⟨t224, A20, H⟩ := H
 have A2 := Aside0.mk A20
 clear A20
 obtain rfl := Option.some.inj H
 go_enter Try.func48, Try.ntmps48
 go_wp2_with (first | ((with_reducible refine gate_callee (f := 56) rfl ?_); refine goesL_ (some 4) rfl rfl Try.func56 (by kernel_rfl) rfl #[.int .u8 a0] rfl s2_ ?_; (with_reducible refine (bits_Len8.calls a0 t224 _ A2.out).mono ?_); rintro e w' ⟨rfl, ⟨nd, rfl⟩⟩; refine ⟨_, rfl, ?_⟩))
 go_ret
 exact ⟨s1_, by repeat (first | exact Drawn0.refl _ | apply Drawn0.step)⟩
mutual
def addr_Common.j0 : Nat → ByteArray → ByteArray → Bool → Option (Int)
 | 0, _, _, _ => none
 | k + 1, x0, x1, x16 => if x16 = true then (some 0) else (addr_Common.l0 k x0 x1 (x0.size : Int) 0)
def addr_Common.l0 : Nat → ByteArray → ByteArray → Int → Int → Option (Int)
 | 0, _, _, _, _ => none
 | k + 1, x0, x1, x18, x19 => if x19 < x18 then (if 0 ≤ x19 then (if x19 < (x0.size : Int) then (if x19 < (x1.size : Int) then (if (Go.bits .xor .u8 (bt x0 x19) (bt x1 x19)) = 0 then (addr_Common.l0 k x0 x1 x18 (wrap64 (x19 + 1))) else ((bits_LeadingZeros8.f (Go.bits .xor .u8 (bt x0 x19) (bt x1 x19))).bind fun t226 => (some (wrap64 ((wrap64 (8 * x19)) + t226))))) else (none)) else (none)) else (none)) else (some (wrap64 (8 * (x0.size : Int))))
end
def addr_Common.f (k : Nat) (a0 : ByteArray) (a1 : ByteArray) : Option (Int) := if (a0.size : Int) = (a1.size : Int) then ((addr_Is.f a0).bind fun t225 => (addr_Common.j0 k a0 a1 (!t225))) else (addr_Common.j0 k a0 a1 true)
set_option maxHeartbeats 8000000 in
set_option maxRecDepth 100000 in
theorem addr_Common.calls (k : Nat) (a0 : ByteArray) (a1 : ByteArray) (r : Int) (w : World) (h : addr_Common.f k a0 a1 = some r) :
  Calls Try.prog 32 #[.string a0, .string a1] w fun e w' => e = .returned (.int .i64 r) ∧ Drawn0 w w' := by
 have H : (if (a0.size : Int) = (a1.size : Int) then ((addr_Is.f a0).bind fun t225 => (addr_Common.j0 k a0 a1 (!t225))) else (addr_Common.j0 k a0 a1 true)) = some r := h
 clear h
 have HC3 := Aside0.mk H
 clear H
 go_enter Try.func32, Try.ntmps32
 go_upto_region 1 with (fail)
 repeat (go_quiet (fail); go_upto_region 1 with (fail))
 go_cut [16] (fun v16 wc => ∃ (kq : Nat) (x16_2 : Bool), v16 = .bool x16_2 ∧ Aside0 (addr_Common.j0 kq a0 a1 x16_2 = some r) ∧ Aside0 (kq ≤ k) ∧ Drawn0 w wc)
 case first =>
  have H := HC3.out
  clear HC3
  by_cases c4 : (a0.size : Int) = (a1.size : Int)
  ·rw [if_pos c4] at H
   have c4b0 : ((a0.size : Int) == (a1.size : Int)) = true := beq_iff_eq.mpr c4
   have c4b1 : ((a0.size : Int) != (a1.size : Int)) = false := bne_eq_false_iff_eq.mpr c4
   have c4b2 : (a0.size == a1.size) = true := by first | simpa using c4 | (simp at c4 ⊢; omega)
   clear c4
   (first | rw [c4b0] | (simp only [i64_w, i32_w]; rw [c4b0]) | skip)
   replace H := Option.bind_eq_some_iff.mp H
   obtain ⟨t225, A50, H⟩ := H
   have A5 := Aside0.mk A50
   clear A50
   have H' := Aside0.mk H
   clear H
   go_wp2_with (first | (go_at_call 45; (with_reducible refine (addr_Is.calls a0 t225 _ A5.out).mono ?_); rintro e w' ⟨rfl, ⟨nd, rfl⟩⟩; (try first | exact ⟨rfl, _, World.drewN_drewN _ _ _⟩ | exact ⟨rfl, _, Eq.trans (World.drewN_drewN _ _ _) (congrArg (World.drewN _) (Nat.add_assoc _ _ _))⟩)))
   repeat (go_quiet (first | (go_at_call 45; (with_reducible refine (addr_Is.calls a0 t225 _ A5.out).mono ?_); rintro e w' ⟨rfl, ⟨nd, rfl⟩⟩; (try first | exact ⟨rfl, _, World.drewN_drewN _ _ _⟩ | exact ⟨rfl, _, Eq.trans (World.drewN_drewN _ _ _) (congrArg (World.drewN _) (Nat.add_assoc _ _ _))⟩))); try go_wp2_with (first | (go_at_call 45; (with_reducible refine (addr_Is.calls a0 t225 _ A5.out).mono ?_); rintro e w' ⟨rfl, ⟨nd, rfl⟩⟩; (try first | exact ⟨rfl, _, World.drewN_drewN _ _ _⟩ | exact ⟨rfl, _, Eq.trans (World.drewN_drewN _ _ _) (congrArg (World.drewN _) (Nat.add_assoc _ _ _))⟩))))
   go_meet
   case rel => exact ⟨_, (!t225), s1_, H', ⟨by first | omega | exact Nat.le_refl _⟩, by repeat (first | exact Drawn0.refl _ | apply Drawn0.step)⟩
  ·rw [if_neg c4] at H
   have c4b0 : ((a0.size : Int) == (a1.size : Int)) = false := beq_eq_false_iff_ne.mpr c4
   have c4b1 : ((a0.size : Int) != (a1.size : Int)) = true := bne_iff_ne.mpr c4
   have c4b2 : (a0.size == a1.size) = false := by first | simpa using c4 | (simp at c4 ⊢; omega)
   (first | rw [c4b0] | (simp only [i64_w, i32_w]; rw [c4b0]) | skip)
   have H' := Aside0.mk H
   clear H
   go_wp2
   repeat (go_quiet (fail); try go_wp2)
   go_meet
   case rel => exact ⟨_, (true), s1_, H', ⟨by first | omega | exact Nat.le_refl _⟩, by repeat (first | exact Drawn0.refl _ | apply Drawn0.step)⟩
 case rest =>
  clear HC3
  try clear p2
  try clear c3
  try clear c4
  try clear c4b0
  try clear c4b1
  try clear c4b2
  obtain ⟨kq, x16_2, rfl, HA, HJ2, ⟨mc2, rfl⟩⟩ := hcut
  cases kq with
  | zero => exact absurd HA.out (by simp [addr_Common.j0])
  | succ kj2 =>
   have H := HA.out
   clear HA
   simp only [addr_Common.j0] at H
   by_cases c6 : x16_2 = true
   ·subst c6
    rw [if_pos rfl] at H
    obtain rfl := Option.some.inj H
    go_wp2
    repeat (go_quiet (fail); try go_wp2)
    go_ret
    exact ⟨s1_, by repeat (first | exact Drawn0.refl _ | apply Drawn0.step)⟩
   ·replace c6 := Bool.eq_false_iff.mpr c6
    subst c6
    rw [if_neg (show ¬ (false = true) by decide)] at H
    have H' := Aside0.mk H
    clear H
    go_wp2
    repeat (go_quiet (fail); try go_wp2)
    go_loopg [19] kj2 (fun kq v19 w' => ∃ (x19_2 : Int), v19 = .int .i64 x19_2 ∧ Aside0 (addr_Common.l0 kq a0 a1 (a0.size : Int) x19_2 = some r) ∧ Aside0 (kq ≤ kj2) ∧ Drawn0 w w')
    case atStart => exact ⟨(0), s1_, H', ⟨Nat.le_refl _⟩, by repeat (first | exact Drawn0.refl _ | apply Drawn0.step)⟩
    case round =>
     clear H'
     try clear c2
     try clear p2
     try clear c3
     try clear c4
     try clear c4b0
     try clear c4b1
     try clear c4b2
     try clear c6
     try clear p2
     obtain ⟨x19_2, rfl, HA, HK2, ⟨m2, rfl⟩⟩ := hrel
     cases gk with
     | zero => exact absurd HA.out (by simp [addr_Common.l0])
     | succ k2 =>
      have H := HA.out
      clear HA
      simp only [addr_Common.l0] at H
      by_cases c7 : x19_2 < (a0.size : Int)
      ·rw [if_pos c7] at H
       have c7b0 : decide (x19_2 < (a0.size : Int)) = true := decide_eq_true c7
       clear c7
       by_cases c8 : 0 ≤ x19_2
       ·rw [if_pos c8] at H
        have c8b0 : decide (0 ≤ x19_2) = true := decide_eq_true c8
        clear c8
        by_cases c9 : x19_2 < (a0.size : Int)
        ·rw [if_pos c9] at H
         have c9b0 : decide (x19_2 < (a0.size : Int)) = true := decide_eq_true c9
         clear c9
         by_cases c11 : x19_2 < (a1.size : Int)
         ·rw [if_pos c11] at H
          have c11b0 : decide (x19_2 < (a1.size : Int)) = true := decide_eq_true c11
          clear c11
          by_cases c13 : (Go.bits .xor .u8 (bt a0 x19_2) (bt a1 x19_2)) = 0
          ·rw [if_pos c13] at H
           have c13b0 : ((Go.bits .xor .u8 (bt a0 x19_2) (bt a1 x19_2)) == 0) = true := beq_iff_eq.mpr c13
           have c13b1 : ((Go.bits .xor .u8 (bt a0 x19_2) (bt a1 x19_2)) != 0) = false := bne_eq_false_iff_eq.mpr c13
           clear c13
           have H' := Aside0.mk H
           clear H
           have p10 : 0 ≤ (x19_2 : Int) := of_decide_eq_true (by first | (with_reducible assumption) | assumption)
           have q10 : x19_2 < (a0.size : Int) := of_decide_eq_true (by first | (with_reducible assumption) | assumption)
           have hx10 := bt_at a0 x19_2
           replace p10 := eq_true p10
           replace q10 := eq_true q10
           have p12 : 0 ≤ (x19_2 : Int) := of_decide_eq_true (by first | (with_reducible assumption) | assumption)
           have q12 : x19_2 < (a1.size : Int) := of_decide_eq_true (by first | (with_reducible assumption) | assumption)
           have hx12 := bt_at a1 x19_2
           replace p12 := eq_true p12
           replace q12 := eq_true q12
           go_wp2
           repeat (go_quiet (fail); try go_wp2)
           go_roundg k2
           case measure => have := HJ2.out; have := HK2.out; omega
           case rel => exact ⟨(wrap64 (x19_2 + 1)), s1_, H', ⟨by have := HJ2.out; have := HK2.out; omega⟩, by repeat (first | exact Drawn0.refl _ | apply Drawn0.step)⟩
          ·rw [if_neg c13] at H
           have c13b0 : ((Go.bits .xor .u8 (bt a0 x19_2) (bt a1 x19_2)) == 0) = false := beq_eq_false_iff_ne.mpr c13
           have c13b1 : ((Go.bits .xor .u8 (bt a0 x19_2) (bt a1 x19_2)) != 0) = true := bne_iff_ne.mpr c13
           replace H := Option.bind_eq_some_iff.mp H
           obtain ⟨t226, A140, H⟩ := H
           have A14 := Aside0.mk A140
           clear A140
           obtain rfl := Option.some.inj H
           have p10 : 0 ≤ (x19_2 : Int) := of_decide_eq_true (by first | (with_reducible assumption) | assumption)
           have q10 : x19_2 < (a0.size : Int) := of_decide_eq_true (by first | (with_reducible assumption) | assumption)
           have hx10 := bt_at a0 x19_2
           replace p10 := eq_true p10
           replace q10 := eq_true q10
           have p12 : 0 ≤ (x19_2 : Int) := of_decide_eq_true (by first | (with_reducible assumption) | assumption)
           have q12 : x19_2 < (a1.size : Int) := of_decide_eq_true (by first | (with_reducible assumption) | assumption)
           have hx12 := bt_at a1 x19_2
           replace p12 := eq_true p12
           replace q12 := eq_true q12
           go_wp2_with (first | (go_at_call 48; (with_reducible refine (bits_LeadingZeros8.calls (Go.bits .xor .u8 (bt a0 x19_2) (bt a1 x19_2)) t226 _ A14.out).mono ?_); rintro e w' ⟨rfl, ⟨nd, rfl⟩⟩; (try first | exact ⟨rfl, _, World.drewN_drewN _ _ _⟩ | exact ⟨rfl, _, Eq.trans (World.drewN_drewN _ _ _) (congrArg (World.drewN _) (Nat.add_assoc _ _ _))⟩)))
           repeat (go_quiet (first | (go_at_call 48; (with_reducible refine (bits_LeadingZeros8.calls (Go.bits .xor .u8 (bt a0 x19_2) (bt a1 x19_2)) t226 _ A14.out).mono ?_); rintro e w' ⟨rfl, ⟨nd, rfl⟩⟩; (try first | exact ⟨rfl, _, World.drewN_drewN _ _ _⟩ | exact ⟨rfl, _, Eq.trans (World.drewN_drewN _ _ _) (congrArg (World.drewN _) (Nat.add_assoc _ _ _))⟩))); try go_wp2_with (first | (go_at_call 48; (with_reducible refine (bits_LeadingZeros8.calls (Go.bits .xor .u8 (bt a0 x19_2) (bt a1 x19_2)) t226 _ A14.out).mono ?_); rintro e w' ⟨rfl, ⟨nd, rfl⟩⟩; (try first | exact ⟨rfl, _, World.drewN_drewN _ _ _⟩ | exact ⟨rfl, _, Eq.trans (World.drewN_drewN _ _ _) (congrArg (World.drewN _) (Nat.add_assoc _ _ _))⟩))))
           go_ret
           exact ⟨s1_, by repeat (first | exact Drawn0.refl _ | apply Drawn0.step)⟩
         ·rw [if_neg c11] at H
          exact absurd H (by simp)
        ·rw [if_neg c9] at H
         exact absurd H (by simp)
       ·rw [if_neg c8] at H
        exact absurd H (by simp)
      ·rw [if_neg c7] at H
       have c7b0 : decide (x19_2 < (a0.size : Int)) = false := decide_eq_false c7
       clear c7
       obtain rfl := Option.some.inj H
       go_wp2
       repeat (go_quiet (fail); try go_wp2)
       go_ret
       exact ⟨s1_, by repeat (first | exact Drawn0.refl _ | apply Drawn0.step)⟩
def addr_In.f (k : Nat) (a0 : ByteArray) (a1 : ByteArray) (a2 : Int) : Option (Bool) := if (a0.size : Int) = (a1.size : Int) then ((addr_Is.f a0).bind fun t227 => (if t227 = true then (if a2 ≥ 0 then (if a2 ≤ (wrap64 (8 * (a0.size : Int))) then ((addr_Common.f k a0 a1).bind fun t228 => (some (decide (t228 ≥ a2)))) else (some false)) else (some false)) else (some false))) else (some false)
set_option maxHeartbeats 8000000 in
set_option maxRecDepth 100000 in
theorem addr_In.calls (k : Nat) (a0 : ByteArray) (a1 : ByteArray) (a2 : Int) (r : Bool) (w : World) (h : addr_In.f k a0 a1 a2 = some r) :
  Calls Try.prog 46 #[.string a0, .string a1, .int .i64 a2] w fun e w' => e = .returned (.bool r) ∧ Drawn0 w w' := by
 have H : (if (a0.size : Int) = (a1.size : Int) then ((addr_Is.f a0).bind fun t227 => (if t227 = true then (if a2 ≥ 0 then (if a2 ≤ (wrap64 (8 * (a0.size : Int))) then ((addr_Common.f k a0 a1).bind fun t228 => (some (decide (t228 ≥ a2)))) else (some false)) else (some false)) else (some false))) else (some false)) = some r := h
 clear h
 by_cases c4 : (a0.size : Int) = (a1.size : Int)
 ·rw [if_pos c4] at H
  have c4b0 : ((a0.size : Int) == (a1.size : Int)) = true := beq_iff_eq.mpr c4
  have c4b1 : ((a0.size : Int) != (a1.size : Int)) = false := bne_eq_false_iff_eq.mpr c4
  have c4b2 : (a0.size == a1.size) = true := by first | simpa using c4 | (simp at c4 ⊢; omega)
  clear c4
  replace H := Option.bind_eq_some_iff.mp H
  obtain ⟨t227, A50, H⟩ := H
  have A5 := Aside0.mk A50
  clear A50
  by_cases c6 : t227 = true
  ·subst c6
   rw [if_pos rfl] at H
   by_cases c7 : a2 ≥ 0
   ·rw [if_pos c7] at H
    have c7b0 : decide (0 ≤ a2) = true := decide_eq_true c7
    clear c7
    by_cases c8 : a2 ≤ (wrap64 (8 * (a0.size : Int)))
    ·rw [if_pos c8] at H
     have c8b0 : decide (a2 ≤ (wrap64 (8 * (a0.size : Int)))) = true := decide_eq_true c8
     clear c8
     replace H := Option.bind_eq_some_iff.mp H
     obtain ⟨t228, A90, H⟩ := H
     have A9 := Aside0.mk A90
     clear A90
     obtain rfl := Option.some.inj H
     go_enter Try.func46, Try.ntmps46
     go_wp2_with (first | (go_at_call 45; (with_reducible refine (addr_Is.calls a0 true _ A5.out).mono ?_); rintro e w' ⟨rfl, ⟨nd, rfl⟩⟩) | (go_at_call 32; (with_reducible refine (addr_Common.calls k a0 a1 t228 _ A9.out).mono ?_); rintro e w' ⟨rfl, ⟨nd, rfl⟩⟩))
     go_ret
     exact ⟨s1_, by repeat (first | exact Drawn0.refl _ | apply Drawn0.step)⟩
    ·rw [if_neg c8] at H
     have c8b0 : decide (a2 ≤ (wrap64 (8 * (a0.size : Int)))) = false := decide_eq_false c8
     clear c8
     obtain rfl := Option.some.inj H
     go_enter Try.func46, Try.ntmps46
     go_wp2_with (first | (go_at_call 45; (with_reducible refine (addr_Is.calls a0 true _ A5.out).mono ?_); rintro e w' ⟨rfl, ⟨nd, rfl⟩⟩))
     go_ret
     exact ⟨s1_, by repeat (first | exact Drawn0.refl _ | apply Drawn0.step)⟩
   ·rw [if_neg c7] at H
    have c7b0 : decide (0 ≤ a2) = false := decide_eq_false c7
    clear c7
    obtain rfl := Option.some.inj H
    go_enter Try.func46, Try.ntmps46
    go_wp2_with (first | (go_at_call 45; (with_reducible refine (addr_Is.calls a0 true _ A5.out).mono ?_); rintro e w' ⟨rfl, ⟨nd, rfl⟩⟩))
    go_ret
    exact ⟨s1_, by repeat (first | exact Drawn0.refl _ | apply Drawn0.step)⟩
  ·replace c6 := Bool.eq_false_iff.mpr c6
   subst c6
   rw [if_neg (show ¬ (false = true) by decide)] at H
   obtain rfl := Option.some.inj H
   go_enter Try.func46, Try.ntmps46
   go_wp2_with (first | (go_at_call 45; (with_reducible refine (addr_Is.calls a0 false _ A5.out).mono ?_); rintro e w' ⟨rfl, ⟨nd, rfl⟩⟩))
   go_ret
   exact ⟨s1_, by repeat (first | exact Drawn0.refl _ | apply Drawn0.step)⟩
 ·rw [if_neg c4] at H
  have c4b0 : ((a0.size : Int) == (a1.size : Int)) = false := beq_eq_false_iff_ne.mpr c4
  have c4b1 : ((a0.size : Int) != (a1.size : Int)) = true := bne_iff_ne.mpr c4
  have c4b2 : (a0.size == a1.size) = false := by first | simpa using c4 | (simp at c4 ⊢; omega)
  obtain rfl := Option.some.inj H
  go_enter Try.func46, Try.ntmps46
  go_wp2
  go_ret
  exact ⟨s1_, by repeat (first | exact Drawn0.refl _ | apply Drawn0.step)⟩
def selecttab_wide.f (a0 : ByteArray) : Option (ByteArray) := if (a0.size : Int) = 4 then (if 12 + a0.size ≤ 9223372036854775807 then (some ((⟨#[0, 0, 0, 0, 0, 0, 0, 0, 0, 0, 255, 255]⟩ : ByteArray) ++ a0)) else (none)) else (some a0)
set_option maxHeartbeats 8000000 in
set_option maxRecDepth 100000 in
theorem selecttab_wide.calls (a0 : ByteArray) (r : ByteArray) (w : World) (h : selecttab_wide.f a0 = some r) :
  Calls Try.prog 47 #[.string a0] w fun e w' => e = .returned (.string r) ∧ Drawn0 w w' := by
 have H : (if (a0.size : Int) = 4 then (if 12 + a0.size ≤ 9223372036854775807 then (some ((⟨#[0, 0, 0, 0, 0, 0, 0, 0, 0, 0, 255, 255]⟩ : ByteArray) ++ a0)) else (none)) else (some a0)) = some r := h
 clear h
 by_cases c2 : (a0.size : Int) = 4
 ·rw [if_pos c2] at H
  have c2b0 : ((a0.size : Int) == 4) = true := beq_iff_eq.mpr c2
  have c2b1 : ((a0.size : Int) != 4) = false := bne_eq_false_iff_eq.mpr c2
  clear c2
  by_cases c3 : 12 + a0.size ≤ 9223372036854775807
  ·rw [if_pos c3] at H
   have c3b0 := eq_true c3
   have c3b1 : decide (12 + a0.size ≤ 9223372036854775807) = true := decide_eq_true c3
   try have c3b2 : (9223372036854775807 < 12 + a0.size) = False := eq_false (Nat.not_lt.2 c3)
   obtain rfl := Option.some.inj H
   go_enter Try.func47, Try.ntmps47
   go_wp2
   go_ret
   exact ⟨s1_, by repeat (first | exact Drawn0.refl _ | apply Drawn0.step)⟩
  ·rw [if_neg c3] at H
   exact absurd H (by simp)
 ·rw [if_neg c2] at H
  have c2b0 : ((a0.size : Int) == 4) = false := beq_eq_false_iff_ne.mpr c2
  have c2b1 : ((a0.size : Int) != 4) = true := bne_iff_ne.mpr c2
  obtain rfl := Option.some.inj H
  go_enter Try.func47, Try.ntmps47
  go_wp2
  go_ret
  exact ⟨s1_, by repeat (first | exact Drawn0.refl _ | apply Drawn0.step)⟩
def selecttab_Row.l0 : Nat → ByteArray → Int → Int → Int → List (S52) → Int → Int → Option (Int × Int)
 | 0, _, _, _, _, _, _, _ => none
 | k + 1, x1, x6, x7, x8, x17, x18, x19 => if x19 < x18 then (if 0 ≤ x19 then (if x19 < (x17.length : Int) then ((selecttab_wide.f x1).bind fun t233 => ((addr_In.f k t233 ((rd_T52 x17 x19).f0) ((rd_T52 x17 x19).f1)).bind fun t234 => (if t234 = true then (if ((rd_T52 x17 x19).f1) > x8 then (selecttab_Row.l0 k x1 ((rd_T52 x17 x19).f2) ((rd_T52 x17 x19).f3) ((rd_T52 x17 x19).f1) x17 x18 (wrap64 (x19 + 1))) else (selecttab_Row.l0 k x1 x6 x7 x8 x17 x18 (wrap64 (x19 + 1)))) else (selecttab_Row.l0 k x1 x6 x7 x8 x17 x18 (wrap64 (x19 + 1)))))) else (none)) else (none)) else (some (x6, x7))
def selecttab_Row.f (k : Nat) (l0_0 : List (S52)) (l0_1 : List ByteArray) (a1 : ByteArray) : Option (Int × Int) := (addr_Is.f a1).bind fun t230 => (if t230 = true then (selecttab_Row.l0 k a1 1 40 (-1) l0_0 (l0_0.length : Int) 0) else (some (1, 40)))
set_option maxHeartbeats 8000000 in
set_option maxRecDepth 100000 in
theorem selecttab_Row.calls (k : Nat) (A0_0 : Option Addr) (c0_0 : Nat) (l0_0 : List (S52)) (A0_1 : Option Addr) (c0_1 : Nat) (l0_1 : List ByteArray) (a1 : ByteArray) (r1 : Int) (r2 : Int) (w : World) (hr0_0 : Kd.C k52 w A0_0 l0_0.length l0_0) (hc0_0 : l0_0.length ≤ c0_0) (hr0_1 : Kd.C Kd.string w A0_1 l0_1.length l0_1) (hc0_1 : l0_1.length ≤ c0_1) (h : selecttab_Row.f k l0_0 l0_1 a1 = some (r1, r2)) :
  Calls Try.prog 29 #[.agg #[.slice A0_0 l0_0.length c0_0, .slice A0_1 l0_1.length c0_1], .string a1] w fun e w' => e = .returned (.tuple #[.int .i64 r1, .int .i64 r2]) ∧ Below w.heap.size w w' := by
 have hu28 := Try.underlying28
 have hu52 := Try.underlying52
 have HR0_0 := Aside0.mk hr0_0
 have HC0_0 := Aside0.mk hc0_0
 clear hr0_0 hc0_0
 have HR0_1 := Aside0.mk hr0_1
 have HC0_1 := Aside0.mk hc0_1
 clear hr0_1 hc0_1
 have HB := Aside0.mk (Below.refl w.heap.size w)
 have H : ((addr_Is.f a1).bind fun t230 => (if t230 = true then (selecttab_Row.l0 k a1 1 40 (-1) l0_0 (l0_0.length : Int) 0) else (some (1, 40)))) = some (r1, r2) := h
 clear h
 replace H := Option.bind_eq_some_iff.mp H
 obtain ⟨t230, A30, H⟩ := H
 have A3 := Aside0.mk A30
 clear A30
 by_cases c4 : t230 = true
 ·subst c4
  rw [if_pos rfl] at H
  have H' := Aside0.mk H
  clear H
  go_enter Try.func29, Try.ntmps29
  go_wp2_with (first | ((with_reducible refine gate_dst (N := 2) rfl ?_); refine box_event ?hg (N := 2) ?hd (cs := #[.slice A0_0 l0_0.length c0_0, .slice A0_1 l0_1.length c0_1]) (t := 28) ?hr ?_; (case hd => rfl); (case hg => rfl); (case hr => first | (go_simp; done) | (go_simp; rfl)); intro gb229 hg w5 hbox hb; have n0_ := Aside0.mk (below_step (fB0) hb); have n1_ := Aside0.mk (hbox); have n2_ := Aside0.mk ((by rw [hg]; exact (below_size (fB0)) : w.heap.size ≤ gb229)); have n3_ := Aside0.mk ((by rw [hg]; exact (below_size (fB0)) : w.heap.size ≤ gb229)); clear HB; have HB := n0_; have BK229 := n1_; have GW229 := n2_; have GE229 := n3_; clear n0_ n1_ n2_ n3_; clear hb hbox hg) | (go_at_call 45; (with_reducible refine (addr_Is.calls a1 true _ A3.out).mono ?_); rintro e w' ⟨rfl, ⟨nd, rfl⟩⟩; (try first | exact ⟨rfl, _, World.drewN_drewN _ _ _⟩ | exact ⟨rfl, _, Eq.trans (World.drewN_drewN _ _ _) (congrArg (World.drewN _) (Nat.add_assoc _ _ _))⟩); have hcz6_0 : w5.cell? ⟨gb229, 0, none⟩ = some (.slice A0_0 l0_0.length c0_0) := (blk_cell BK229.out 0).trans rfl; have hcz6_1 : w5.cell? ⟨gb229, 1, none⟩ = some (.slice A0_1 l0_1.length c0_1) := (blk_cell BK229.out 1).trans rfl; have hfz6_0 := blk_frozen BK229.out 0; have hfz6_1 := blk_frozen BK229.out 1))
  repeat (go_quiet (first | ((with_reducible refine gate_dst (N := 2) rfl ?_); refine box_event ?hg (N := 2) ?hd (cs := #[.slice A0_0 l0_0.length c0_0, .slice A0_1 l0_1.length c0_1]) (t := 28) ?hr ?_; (case hd => rfl); (case hg => rfl); (case hr => first | (go_simp; done) | (go_simp; rfl)); intro gb229 hg w5 hbox hb; have n0_ := Aside0.mk (below_step (fB0) hb); have n1_ := Aside0.mk (hbox); have n2_ := Aside0.mk ((by rw [hg]; exact (below_size (fB0)) : w.heap.size ≤ gb229)); have n3_ := Aside0.mk ((by rw [hg]; exact (below_size (fB0)) : w.heap.size ≤ gb229)); clear HB; have HB := n0_; have BK229 := n1_; have GW229 := n2_; have GE229 := n3_; clear n0_ n1_ n2_ n3_; clear hb hbox hg) | (go_at_call 45; (with_reducible refine (addr_Is.calls a1 true _ A3.out).mono ?_); rintro e w' ⟨rfl, ⟨nd, rfl⟩⟩; (try first | exact ⟨rfl, _, World.drewN_drewN _ _ _⟩ | exact ⟨rfl, _, Eq.trans (World.drewN_drewN _ _ _) (congrArg (World.drewN _) (Nat.add_assoc _ _ _))⟩); have hcz6_0 : w5.cell? ⟨gb229, 0, none⟩ = some (.slice A0_0 l0_0.length c0_0) := (blk_cell BK229.out 0).trans rfl; have hcz6_1 : w5.cell? ⟨gb229, 1, none⟩ = some (.slice A0_1 l0_1.length c0_1) := (blk_cell BK229.out 1).trans rfl; have hfz6_0 := blk_frozen BK229.out 0; have hfz6_1 := blk_frozen BK229.out 1)); try go_wp2_with (first | ((with_reducible refine gate_dst (N := 2) rfl ?_); refine box_event ?hg (N := 2) ?hd (cs := #[.slice A0_0 l0_0.length c0_0, .slice A0_1 l0_1.length c0_1]) (t := 28) ?hr ?_; (case hd => rfl); (case hg => rfl); (case hr => first | (go_simp; done) | (go_simp; rfl)); intro gb229 hg w5 hbox hb; have n0_ := Aside0.mk (below_step (fB0) hb); have n1_ := Aside0.mk (hbox); have n2_ := Aside0.mk ((by rw [hg]; exact (below_size (fB0)) : w.heap.size ≤ gb229)); have n3_ := Aside0.mk ((by rw [hg]; exact (below_size (fB0)) : w.heap.size ≤ gb229)); clear HB; have HB := n0_; have BK229 := n1_; have GW229 := n2_; have GE229 := n3_; clear n0_ n1_ n2_ n3_; clear hb hbox hg) | (go_at_call 45; (with_reducible refine (addr_Is.calls a1 true _ A3.out).mono ?_); rintro e w' ⟨rfl, ⟨nd, rfl⟩⟩; (try first | exact ⟨rfl, _, World.drewN_drewN _ _ _⟩ | exact ⟨rfl, _, Eq.trans (World.drewN_drewN _ _ _) (congrArg (World.drewN _) (Nat.add_assoc _ _ _))⟩); have hcz6_0 : w5.cell? ⟨gb229, 0, none⟩ = some (.slice A0_0 l0_0.length c0_0) := (blk_cell BK229.out 0).trans rfl; have hcz6_1 : w5.cell? ⟨gb229, 1, none⟩ = some (.slice A0_1 l0_1.length c0_1) := (blk_cell BK229.out 1).trans rfl; have hfz6_0 := blk_frozen BK229.out 0; have hfz6_1 := blk_frozen BK229.out 1)))
  go_loopg [6, 7, 8, 19] k (fun kq v6 v7 v8 v19 w' => ∃ (x6_1 : Int) (x7_1 : Int) (x8_1 : Int) (x19_1 : Int), v6 = .int .i64 x6_1 ∧ v7 = .int .i64 x7_1 ∧ v8 = .int .i64 x8_1 ∧ v19 = .int .i64 x19_1 ∧ Aside0 (selecttab_Row.l0 kq a1 x6_1 x7_1 x8_1 l0_0 (l0_0.length : Int) x19_1 = some (r1, r2)) ∧ Aside0 (kq ≤ k) ∧ Aside0 (w'.heap[gb229]? = some (.cells #[(.slice A0_0 l0_0.length c0_0), (.slice A0_1 l0_1.length c0_1)] 28 (0, 0))) ∧ Aside0 (Below w.heap.size w w'))
  case atStart => exact ⟨(1), (40), ((-1)), (0), s1_, s1_, s1_, s1_, H', ⟨Nat.le_refl _⟩, ⟨(fA1 BK229)⟩, ⟨(fB1 GE229)⟩⟩
  case round =>
   clear H'
   try clear c2
   try clear p2
   try clear c4
   try clear hcz6_0
   try clear hcz6_1
   try clear hfz6_0
   try clear hfz6_1
   obtain ⟨x6_1, x7_1, x8_1, x19_1, rfl, rfl, rfl, rfl, HA, HK1, BK229, HB⟩ := hrel
   cases gk with
   | zero => exact absurd HA.out (by simp [selecttab_Row.l0])
   | succ k1 =>
    have H := HA.out
    clear HA
    simp only [selecttab_Row.l0] at H
    by_cases c7 : x19_1 < (l0_0.length : Int)
    ·rw [if_pos c7] at H
     have c7b0 : decide (x19_1 < (l0_0.length : Int)) = true := decide_eq_true c7
     clear c7
     by_cases c8 : 0 ≤ x19_1
     ·rw [if_pos c8] at H
      have c8b0 : decide (0 ≤ x19_1) = true := decide_eq_true c8
      clear c8
      by_cases c9 : x19_1 < (l0_0.length : Int)
      ·rw [if_pos c9] at H
       have c9b0 : decide (x19_1 < (l0_0.length : Int)) = true := decide_eq_true c9
       clear c9
       replace H := Option.bind_eq_some_iff.mp H
       obtain ⟨t233, A100, H⟩ := H
       have A10 := Aside0.mk A100
       clear A100
       replace H := Option.bind_eq_some_iff.mp H
       obtain ⟨t234, A110, H⟩ := H
       have A11 := Aside0.mk A110
       clear A110
       by_cases c12 : t234 = true
       ·subst c12
        rw [if_pos rfl] at H
        by_cases c13 : ((rd_T52 l0_0 x19_1).f1) > x8_1
        ·rw [if_pos c13] at H
         have c13b0 : decide (x8_1 < ((rd_T52 l0_0 x19_1).f1)) = true := decide_eq_true c13
         clear c13
         have H' := Aside0.mk H
         clear H
         have p231 : 0 ≤ (x19_1 : Int) := of_decide_eq_true (by first | (with_reducible assumption) | assumption)
         have q231 : x19_1 < (l0_0.length : Int) := of_decide_eq_true (by first | (with_reducible assumption) | assumption)
         obtain ⟨ad231, e231, hx231_0, hx231_1, hx231_2, hx231_3⟩ := at_T52 HR0_0.out x19_1 p231 q231
         cases e231
         replace hx231_0 := (HB.out.cell (World.block_lt_of_cell? w _ hx231_0)).trans hx231_0
         replace hx231_1 := (HB.out.cell (World.block_lt_of_cell? w _ hx231_1)).trans hx231_1
         replace hx231_2 := (HB.out.cell (World.block_lt_of_cell? w _ hx231_2)).trans hx231_2
         replace hx231_3 := (HB.out.cell (World.block_lt_of_cell? w _ hx231_3)).trans hx231_3
         replace p231 := eq_true p231
         replace q231 := eq_true q231
         go_wp2_with (first | ((with_reducible refine gate_dst (N := 10) rfl ?_); refine box_event ?hg (N := 10) ?hd (cs := #[.string (⟨#[]⟩ : ByteArray), .int .i64 0, .int .i64 0, .int .i64 0]) (t := 52) ?hr ?_; (case hd => rfl); (case hg => rfl); (case hr => first | (go_simp; done) | (go_simp; rfl)); intro gb232 hg w14 hbox hb; have n0_ := Aside0.mk (blk_below (g := gb229) (o := .cells #[.slice (some ad231) l0_0.length c0_0, .slice A0_1 l0_1.length c0_1] 28 (0, 0)) (fA1 BK229) hb); have n1_ := Aside0.mk (below_step (fB1 GE229) hb); have n2_ := Aside0.mk (hbox); have n3_ := Aside0.mk ((by rw [hg]; exact (below_size (fB1 GE229)) : w.heap.size ≤ gb232)); have n4_ := Aside0.mk ((by rw [hg]; exact (below_size (fB1 GE229)) : w.heap.size ≤ gb232)); have n5_ := Aside0.mk ((by rw [hg]; exact Nat.ne_of_lt (blk_lt (g := gb229) (o := .cells #[.slice (some ad231) l0_0.length c0_0, .slice A0_1 l0_1.length c0_1] 28 (0, 0)) (fA1 BK229)) : gb229 ≠ gb232)); have n6_ := Aside0.mk ((by rw [hg]; exact Nat.ne_of_gt (blk_lt (g := gb229) (o := .cells #[.slice (some ad231) l0_0.length c0_0, .slice A0_1 l0_1.length c0_1] 28 (0, 0)) (fA1 BK229)) : gb232 ≠ gb229)); clear BK229; clear HB; have BK229 := n0_; have HB := n1_; have BK232 := n2_; have GW232 := n3_; have GE232 := n4_; have NB229_232 := n5_; have NB232_229 := n6_; clear n0_ n1_ n2_ n3_ n4_ n5_ n6_; clear hb hbox hg; have hnb15 := NB232_229.out; have hnc15 := NB229_232.out; have hcz16_0 : w14.cell? ⟨gb232, 0, none⟩ = some (.string (⟨#[]⟩ : ByteArray)) := (blk_cell BK232.out 0).trans rfl; have hcz16_1 : w14.cell? ⟨gb232, 1, none⟩ = some (.int .i64 0) := (blk_cell BK232.out 1).trans rfl; have hcz16_2 : w14.cell? ⟨gb232, 2, none⟩ = some (.int .i64 0) := (blk_cell BK232.out 2).trans rfl; have hcz16_3 : w14.cell? ⟨gb232, 3, none⟩ = some (.int .i64 0) := (blk_cell BK232.out 3).trans rfl; have hfz16_0 := blk_frozen BK232.out 0; have hfz16_1 := blk_frozen BK232.out 1; have hfz16_2 := blk_frozen BK232.out 2; have hfz16_3 := blk_frozen BK232.out 3) | (go_at_call 47; (with_reducible refine (selecttab_wide.calls a1 t233 _ A10.out).mono ?_); rintro e w' ⟨rfl, ⟨nd, rfl⟩⟩; (try first | exact ⟨rfl, _, World.drewN_drewN _ _ _⟩ | exact ⟨rfl, _, Eq.trans (World.drewN_drewN _ _ _) (congrArg (World.drewN _) (Nat.add_assoc _ _ _))⟩)) | (go_at_call 46; (with_reducible refine (addr_In.calls k1 t233 ((rd_T52 l0_0 x19_1).f0) ((rd_T52 l0_0 x19_1).f1) true _ A11.out).mono ?_); rintro e w' ⟨rfl, ⟨nd, rfl⟩⟩; (try first | exact ⟨rfl, _, World.drewN_drewN _ _ _⟩ | exact ⟨rfl, _, Eq.trans (World.drewN_drewN _ _ _) (congrArg (World.drewN _) (Nat.add_assoc _ _ _))⟩)))
         repeat (go_quiet (first | ((with_reducible refine gate_dst (N := 10) rfl ?_); refine box_event ?hg (N := 10) ?hd (cs := #[.string (⟨#[]⟩ : ByteArray), .int .i64 0, .int .i64 0, .int .i64 0]) (t := 52) ?hr ?_; (case hd => rfl); (case hg => rfl); (case hr => first | (go_simp; done) | (go_simp; rfl)); intro gb232 hg w14 hbox hb; have n0_ := Aside0.mk (blk_below (g := gb229) (o := .cells #[.slice (some ad231) l0_0.length c0_0, .slice A0_1 l0_1.length c0_1] 28 (0, 0)) (fA1 BK229) hb); have n1_ := Aside0.mk (below_step (fB1 GE229) hb); have n2_ := Aside0.mk (hbox); have n3_ := Aside0.mk ((by rw [hg]; exact (below_size (fB1 GE229)) : w.heap.size ≤ gb232)); have n4_ := Aside0.mk ((by rw [hg]; exact (below_size (fB1 GE229)) : w.heap.size ≤ gb232)); have n5_ := Aside0.mk ((by rw [hg]; exact Nat.ne_of_lt (blk_lt (g := gb229) (o := .cells #[.slice (some ad231) l0_0.length c0_0, .slice A0_1 l0_1.length c0_1] 28 (0, 0)) (fA1 BK229)) : gb229 ≠ gb232)); have n6_ := Aside0.mk ((by rw [hg]; exact Nat.ne_of_gt (blk_lt (g := gb229) (o := .cells #[.slice (some ad231) l0_0.length c0_0, .slice A0_1 l0_1.length c0_1] 28 (0, 0)) (fA1 BK229)) : gb232 ≠ gb229)); clear BK229; clear HB; have BK229 := n0_; have HB := n1_; have BK232 := n2_; have GW232 := n3_; have GE232 := n4_; have NB229_232 := n5_; have NB232_229 := n6_; clear n0_ n1_ n2_ n3_ n4_ n5_ n6_; clear hb hbox hg; have hnb15 := NB232_229.out; have hnc15 := NB229_232.out; have hcz16_0 : w14.cell? ⟨gb232, 0, none⟩ = some (.string (⟨#[]⟩ : ByteArray)) := (blk_cell BK232.out 0).trans rfl; have hcz16_1 : w14.cell? ⟨gb232, 1, none⟩ = some (.int .i64 0) := (blk_cell BK232.out 1).trans rfl; have hcz16_2 : w14.cell? ⟨gb232, 2, none⟩ = some (.int .i64 0) := (blk_cell BK232.out 2).trans rfl; have hcz16_3 : w14.cell? ⟨gb232, 3, none⟩ = some (.int .i64 0) := (blk_cell BK232.out 3).trans rfl; have hfz16_0 := blk_frozen BK232.out 0; have hfz16_1 := blk_frozen BK232.out 1; have hfz16_2 := blk_frozen BK232.out 2; have hfz16_3 := blk_frozen BK232.out 3) | (go_at_call 47; (with_reducible refine (selecttab_wide.calls a1 t233 _ A10.out).mono ?_); rintro e w' ⟨rfl, ⟨nd, rfl⟩⟩; (try first | exact ⟨rfl, _, World.drewN_drewN _ _ _⟩ | exact ⟨rfl, _, Eq.trans (World.drewN_drewN _ _ _) (congrArg (World.drewN _) (Nat.add_assoc _ _ _))⟩)) | (go_at_call 46; (with_reducible refine (addr_In.calls k1 t233 ((rd_T52 l0_0 x19_1).f0) ((rd_T52 l0_0 x19_1).f1) true _ A11.out).mono ?_); rintro e w' ⟨rfl, ⟨nd, rfl⟩⟩; (try first | exact ⟨rfl, _, World.drewN_drewN _ _ _⟩ | exact ⟨rfl, _, Eq.trans (World.drewN_drewN _ _ _) (congrArg (World.drewN _) (Nat.add_assoc _ _ _))⟩))); try go_wp2_with (first | ((with_reducible refine gate_dst (N := 10) rfl ?_); refine box_event ?hg (N := 10) ?hd (cs := #[.string (⟨#[]⟩ : ByteArray), .int .i64 0, .int .i64 0, .int .i64 0]) (t := 52) ?hr ?_; (case hd => rfl); (case hg => rfl); (case hr => first | (go_simp; done) | (go_simp; rfl)); intro gb232 hg w14 hbox hb; have n0_ := Aside0.mk (blk_below (g := gb229) (o := .cells #[.slice (some ad231) l0_0.length c0_0, .slice A0_1 l0_1.length c0_1] 28 (0, 0)) (fA1 BK229) hb); have n1_ := Aside0.mk (below_step (fB1 GE229) hb); have n2_ := Aside0.mk (hbox); have n3_ := Aside0.mk ((by rw [hg]; exact (below_size (fB1 GE229)) : w.heap.size ≤ gb232)); have n4_ := Aside0.mk ((by rw [hg]; exact (below_size (fB1 GE229)) : w.heap.size ≤ gb232)); have n5_ := Aside0.mk ((by rw [hg]; exact Nat.ne_of_lt (blk_lt (g := gb229) (o := .cells #[.slice (some ad231) l0_0.length c0_0, .slice A0_1 l0_1.length c0_1] 28 (0, 0)) (fA1 BK229)) : gb229 ≠ gb232)); have n6_ := Aside0.mk ((by rw [hg]; exact Nat.ne_of_gt (blk_lt (g := gb229) (o := .cells #[.slice (some ad231) l0_0.length c0_0, .slice A0_1 l0_1.length c0_1] 28 (0, 0)) (fA1 BK229)) : gb232 ≠ gb229)); clear BK229; clear HB; have BK229 := n0_; have HB := n1_; have BK232 := n2_; have GW232 := n3_; have GE232 := n4_; have NB229_232 := n5_; have NB232_229 := n6_; clear n0_ n1_ n2_ n3_ n4_ n5_ n6_; clear hb hbox hg; have hnb15 := NB232_229.out; have hnc15 := NB229_232.out; have hcz16_0 : w14.cell? ⟨gb232, 0, none⟩ = some (.string (⟨#[]⟩ : ByteArray)) := (blk_cell BK232.out 0).trans rfl; have hcz16_1 : w14.cell? ⟨gb232, 1, none⟩ = some (.int .i64 0) := (blk_cell BK232.out 1).trans rfl; have hcz16_2 : w14.cell? ⟨gb232, 2, none⟩ = some (.int .i64 0) := (blk_cell BK232.out 2).trans rfl; have hcz16_3 : w14.cell? ⟨gb232, 3, none⟩ = some (.int .i64 0) := (blk_cell BK232.out 3).trans rfl; have hfz16_0 := blk_frozen BK232.out 0; have hfz16_1 := blk_frozen BK232.out 1; have hfz16_2 := blk_frozen BK232.out 2; have hfz16_3 := blk_frozen BK232.out 3) | (go_at_call 47; (with_reducible refine (selecttab_wide.calls a1 t233 _ A10.out).mono ?_); rintro e w' ⟨rfl, ⟨nd, rfl⟩⟩; (try first | exact ⟨rfl, _, World.drewN_drewN _ _ _⟩ | exact ⟨rfl, _, Eq.trans (World.drewN_drewN _ _ _) (congrArg (World.drewN _) (Nat.add_assoc _ _ _))⟩)) | (go_at_call 46; (with_reducible refine (addr_In.calls k1 t233 ((rd_T52 l0_0 x19_1).f0) ((rd_T52 l0_0 x19_1).f1) true _ A11.out).mono ?_); rintro e w' ⟨rfl, ⟨nd, rfl⟩⟩; (try first | exact ⟨rfl, _, World.drewN_drewN _ _ _⟩ | exact ⟨rfl, _, Eq.trans (World.drewN_drewN _ _ _) (congrArg (World.drewN _) (Nat.add_assoc _ _ _))⟩))))
         go_roundg k1
         case measure => have := HK1.out; omega
         case rel => exact ⟨((rd_T52 l0_0 x19_1).f2), ((rd_T52 l0_0 x19_1).f3), ((rd_T52 l0_0 x19_1).f1), (wrap64 (x19_1 + 1)), s1_, s1_, s1_, s1_, H', ⟨by have := HK1.out; omega⟩, ⟨by (with_reducible repeat (first | refine blk_drewN ?_ _ | refine blk_drew ?_ | refine blk_alloc ?_ _)); refine blk_far ?_ NB229_232.out _; (with_reducible repeat (first | refine blk_drewN ?_ _ | refine blk_drew ?_ | refine blk_alloc ?_ _)); refine blk_far ?_ NB229_232.out _; (with_reducible repeat (first | refine blk_drewN ?_ _ | refine blk_drew ?_ | refine blk_alloc ?_ _)); refine blk_far ?_ NB229_232.out _; (with_reducible repeat (first | refine blk_drewN ?_ _ | refine blk_drew ?_ | refine blk_alloc ?_ _)); refine blk_far ?_ NB229_232.out _; (with_reducible repeat (first | refine blk_drewN ?_ _ | refine blk_drew ?_ | refine blk_alloc ?_ _)); exact BK229.out⟩, ⟨(fB2 GE229 GE232)⟩⟩
        ·rw [if_neg c13] at H
         have c13b0 : decide (x8_1 < ((rd_T52 l0_0 x19_1).f1)) = false := decide_eq_false c13
         clear c13
         have H' := Aside0.mk H
         clear H
         have p231 : 0 ≤ (x19_1 : Int) := of_decide_eq_true (by first | (with_reducible assumption) | assumption)
         have q231 : x19_1 < (l0_0.length : Int) := of_decide_eq_true (by first | (with_reducible assumption) | assumption)
         obtain ⟨ad231, e231, hx231_0, hx231_1, hx231_2, hx231_3⟩ := at_T52 HR0_0.out x19_1 p231 q231
         cases e231
         replace hx231_0 := (HB.out.cell (World.block_lt_of_cell? w _ hx231_0)).trans hx231_0
         replace hx231_1 := (HB.out.cell (World.block_lt_of_cell? w _ hx231_1)).trans hx231_1
         replace hx231_2 := (HB.out.cell (World.block_lt_of_cell? w _ hx231_2)).trans hx231_2
         replace hx231_3 := (HB.out.cell (World.block_lt_of_cell? w _ hx231_3)).trans hx231_3
         replace p231 := eq_true p231
         replace q231 := eq_true q231
         go_wp2_with (first | ((with_reducible refine gate_dst (N := 10) rfl ?_); refine box_event ?hg (N := 10) ?hd (cs := #[.string (⟨#[]⟩ : ByteArray), .int .i64 0, .int .i64 0, .int .i64 0]) (t := 52) ?hr ?_; (case hd => rfl); (case hg => rfl); (case hr => first | (go_simp; done) | (go_simp; rfl)); intro gb232 hg w17 hbox hb; have n0_ := Aside0.mk (blk_below (g := gb229) (o := .cells #[.slice (some ad231) l0_0.length c0_0, .slice A0_1 l0_1.length c0_1] 28 (0, 0)) (fA1 BK229) hb); have n1_ := Aside0.mk (below_step (fB1 GE229) hb); have n2_ := Aside0.mk (hbox); have n3_ := Aside0.mk ((by rw [hg]; exact (below_size (fB1 GE229)) : w.heap.size ≤ gb232)); have n4_ := Aside0.mk ((by rw [hg]; exact (below_size (fB1 GE229)) : w.heap.size ≤ gb232)); have n5_ := Aside0.mk ((by rw [hg]; exact Nat.ne_of_lt (blk_lt (g := gb229) (o := .cells #[.slice (some ad231) l0_0.length c0_0, .slice A0_1 l0_1.length c0_1] 28 (0, 0)) (fA1 BK229)) : gb229 ≠ gb232)); have n6_ := Aside0.mk ((by rw [hg]; exact Nat.ne_of_gt (blk_lt (g := gb229) (o := .cells #[.slice (some ad231) l0_0.length c0_0, .slice A0_1 l0_1.length c0_1] 28 (0, 0)) (fA1 BK229)) : gb232 ≠ gb229)); clear BK229; clear HB; have BK229 := n0_; have HB := n1_; have BK232 := n2_; have GW232 := n3_; have GE232 := n4_; have NB229_232 := n5_; have NB232_229 := n6_; clear n0_ n1_ n2_ n3_ n4_ n5_ n6_; clear hb hbox hg; have hnb18 := NB232_229.out; have hnc18 := NB229_232.out; have hcz19_0 : w17.cell? ⟨gb232, 0, none⟩ = some (.string (⟨#[]⟩ : ByteArray)) := (blk_cell BK232.out 0).trans rfl; have hcz19_1 : w17.cell? ⟨gb232, 1, none⟩ = some (.int .i64 0) := (blk_cell BK232.out 1).trans rfl; have hcz19_2 : w17.cell? ⟨gb232, 2, none⟩ = some (.int .i64 0) := (blk_cell BK232.out 2).trans rfl; have hcz19_3 : w17.cell? ⟨gb232, 3, none⟩ = some (.int .i64 0) := (blk_cell BK232.out 3).trans rfl; have hfz19_0 := blk_frozen BK232.out 0; have hfz19_1 := blk_frozen BK232.out 1; have hfz19_2 := blk_frozen BK232.out 2; have hfz19_3 := blk_frozen BK232.out 3) | (go_at_call 47; (with_reducible refine (selecttab_wide.calls a1 t233 _ A10.out).mono ?_); rintro e w' ⟨rfl, ⟨nd, rfl⟩⟩; (try first | exact ⟨rfl, _, World.drewN_drewN _ _ _⟩ | exact ⟨rfl, _, Eq.trans (World.drewN_drewN _ _ _) (congrArg (World.drewN _) (Nat.add_assoc _ _ _))⟩)) | (go_at_call 46; (with_reducible refine (addr_In.calls k1 t233 ((rd_T52 l0_0 x19_1).f0) ((rd_T52 l0_0 x19_1).f1) true _ A11.out).mono ?_); rintro e w' ⟨rfl, ⟨nd, rfl⟩⟩; (try first | exact ⟨rfl, _, World.drewN_drewN _ _ _⟩ | exact ⟨rfl, _, Eq.trans (World.drewN_drewN _ _ _) (congrArg (World.drewN _) (Nat.add_assoc _ _ _))⟩)))
         repeat (go_quiet (first | ((with_reducible refine gate_dst (N := 10) rfl ?_); refine box_event ?hg (N := 10) ?hd (cs := #[.string (⟨#[]⟩ : ByteArray), .int .i64 0, .int .i64 0, .int .i64 0]) (t := 52) ?hr ?_; (case hd => rfl); (case hg => rfl); (case hr => first | (go_simp; done) | (go_simp; rfl)); intro gb232 hg w17 hbox hb; have n0_ := Aside0.mk (blk_below (g := gb229) (o := .cells #[.slice (some ad231) l0_0.length c0_0, .slice A0_1 l0_1.length c0_1] 28 (0, 0)) (fA1 BK229) hb); have n1_ := Aside0.mk (below_step (fB1 GE229) hb); have n2_ := Aside0.mk (hbox); have n3_ := Aside0.mk ((by rw [hg]; exact (below_size (fB1 GE229)) : w.heap.size ≤ gb232)); have n4_ := Aside0.mk ((by rw [hg]; exact (below_size (fB1 GE229)) : w.heap.size ≤ gb232)); have n5_ := Aside0.mk ((by rw [hg]; exact Nat.ne_of_lt (blk_lt (g := gb229) (o := .cells #[.slice (some ad231) l0_0.length c0_0, .slice A0_1 l0_1.length c0_1] 28 (0, 0)) (fA1 BK229)) : gb229 ≠ gb232)); have n6_ := Aside0.mk ((by rw [hg]; exact Nat.ne_of_gt (blk_lt (g := gb229) (o := .cells #[.slice (some ad231) l0_0.length c0_0, .slice A0_1 l0_1.length c0_1] 28 (0, 0)) (fA1 BK229)) : gb232 ≠ gb229)); clear BK229; clear HB; have BK229 := n0_; have HB := n1_; have BK232 := n2_; have GW232 := n3_; have GE232 := n4_; have NB229_232 := n5_; have NB232_229 := n6_; clear n0_ n1_ n2_ n3_ n4_ n5_ n6_; clear hb hbox hg; have hnb18 := NB232_229.out; have hnc18 := NB229_232.out; have hcz19_0 : w17.cell? ⟨gb232, 0, none⟩ = some (.string (⟨#[]⟩ : ByteArray)) := (blk_cell BK232.out 0).trans rfl; have hcz19_1 : w17.cell? ⟨gb232, 1, none⟩ = some (.int .i64 0) := (blk_cell BK232.out 1).trans rfl; have hcz19_2 : w17.cell? ⟨gb232, 2, none⟩ = some (.int .i64 0) := (blk_cell BK232.out 2).trans rfl; have hcz19_3 : w17.cell? ⟨gb232, 3, none⟩ = some (.int .i64 0) := (blk_cell BK232.out 3).trans rfl; have hfz19_0 := blk_frozen BK232.out 0; have hfz19_1 := blk_frozen BK232.out 1; have hfz19_2 := blk_frozen BK232.out 2; have hfz19_3 := blk_frozen BK232.out 3) | (go_at_call 47; (with_reducible refine (selecttab_wide.calls a1 t233 _ A10.out).mono ?_); rintro e w' ⟨rfl, ⟨nd, rfl⟩⟩; (try first | exact ⟨rfl, _, World.drewN_drewN _ _ _⟩ | exact ⟨rfl, _, Eq.trans (World.drewN_drewN _ _ _) (congrArg (World.drewN _) (Nat.add_assoc _ _ _))⟩)) | (go_at_call 46; (with_reducible refine (addr_In.calls k1 t233 ((rd_T52 l0_0 x19_1).f0) ((rd_T52 l0_0 x19_1).f1) true _ A11.out).mono ?_); rintro e w' ⟨rfl, ⟨nd, rfl⟩⟩; (try first | exact ⟨rfl, _, World.drewN_drewN _ _ _⟩ | exact ⟨rfl, _, Eq.trans (World.drewN_drewN _ _ _) (congrArg (World.drewN _) (Nat.add_assoc _ _ _))⟩))); try go_wp2_with (first | ((with_reducible refine gate_dst (N := 10) rfl ?_); refine box_event ?hg (N := 10) ?hd (cs := #[.string (⟨#[]⟩ : ByteArray), .int .i64 0, .int .i64 0, .int .i64 0]) (t := 52) ?hr ?_; (case hd => rfl); (case hg => rfl); (case hr => first | (go_simp; done) | (go_simp; rfl)); intro gb232 hg w17 hbox hb; have n0_ := Aside0.mk (blk_below (g := gb229) (o := .cells #[.slice (some ad231) l0_0.length c0_0, .slice A0_1 l0_1.length c0_1] 28 (0, 0)) (fA1 BK229) hb); have n1_ := Aside0.mk (below_step (fB1 GE229) hb); have n2_ := Aside0.mk (hbox); have n3_ := Aside0.mk ((by rw [hg]; exact (below_size (fB1 GE229)) : w.heap.size ≤ gb232)); have n4_ := Aside0.mk ((by rw [hg]; exact (below_size (fB1 GE229)) : w.heap.size ≤ gb232)); have n5_ := Aside0.mk ((by rw [hg]; exact Nat.ne_of_lt (blk_lt (g := gb229) (o := .cells #[.slice (some ad231) l0_0.length c0_0, .slice A0_1 l0_1.length c0_1] 28 (0, 0)) (fA1 BK229)) : gb229 ≠ gb232)); have n6_ := Aside0.mk ((by rw [hg]; exact Nat.ne_of_gt (blk_lt (g := gb229) (o := .cells #[.slice (some ad231) l0_0.length c0_0, .slice A0_1 l0_1.length c0_1] 28 (0, 0)) (fA1 BK229)) : gb232 ≠ gb229)); clear BK229; clear HB; have BK229 := n0_; have HB := n1_; have BK232 := n2_; have GW232 := n3_; have GE232 := n4_; have NB229_232 := n5_; have NB232_229 := n6_; clear n0_ n1_ n2_ n3_ n4_ n5_ n6_; clear hb hbox hg; have hnb18 := NB232_229.out; have hnc18 := NB229_232.out; have hcz19_0 : w17.cell? ⟨gb232, 0, none⟩ = some (.string (⟨#[]⟩ : ByteArray)) := (blk_cell BK232.out 0).trans rfl; have hcz19_1 : w17.cell? ⟨gb232, 1, none⟩ = some (.int .i64 0) := (blk_cell BK232.out 1).trans rfl; have hcz19_2 : w17.cell? ⟨gb232, 2, none⟩ = some (.int .i64 0) := (blk_cell BK232.out 2).trans rfl; have hcz19_3 : w17.cell? ⟨gb232, 3, none⟩ = some (.int .i64 0) := (blk_cell BK232.out 3).trans rfl; have hfz19_0 := blk_frozen BK232.out 0; have hfz19_1 := blk_frozen BK232.out 1; have hfz19_2 := blk_frozen BK232.out 2; have hfz19_3 := blk_frozen BK232.out 3) | (go_at_call 47; (with_reducible refine (selecttab_wide.calls a1 t233 _ A10.out).mono ?_); rintro e w' ⟨rfl, ⟨nd, rfl⟩⟩; (try first | exact ⟨rfl, _, World.drewN_drewN _ _ _⟩ | exact ⟨rfl, _, Eq.trans (World.drewN_drewN _ _ _) (congrArg (World.drewN _) (Nat.add_assoc _ _ _))⟩)) | (go_at_call 46; (with_reducible refine (addr_In.calls k1 t233 ((rd_T52 l0_0 x19_1).f0) ((rd_T52 l0_0 x19_1).f1) true _ A11.out).mono ?_); rintro e w' ⟨rfl, ⟨nd, rfl⟩⟩; (try first | exact ⟨rfl, _, World.drewN_drewN _ _ _⟩ | exact ⟨rfl, _, Eq.trans (World.drewN_drewN _ _ _) (congrArg (World.drewN _) (Nat.add_assoc _ _ _))⟩))))
         go_roundg k1
         case measure => have := HK1.out; omega
         case rel => exact ⟨(x6_1), (x7_1), (x8_1), (wrap64 (x19_1 + 1)), s1_, s1_, s1_, s1_, H', ⟨by have := HK1.out; omega⟩, ⟨by (with_reducible repeat (first | refine blk_drewN ?_ _ | refine blk_drew ?_ | refine blk_alloc ?_ _)); refine blk_far ?_ NB229_232.out _; (with_reducible repeat (first | refine blk_drewN ?_ _ | refine blk_drew ?_ | refine blk_alloc ?_ _)); refine blk_far ?_ NB229_232.out _; (with_reducible repeat (first | refine blk_drewN ?_ _ | refine blk_drew ?_ | refine blk_alloc ?_ _)); refine blk_far ?_ NB229_232.out _; (with_reducible repeat (first | refine blk_drewN ?_ _ | refine blk_drew ?_ | refine blk_alloc ?_ _)); refine blk_far ?_ NB229_232.out _; (with_reducible repeat (first | refine blk_drewN ?_ _ | refine blk_drew ?_ | refine blk_alloc ?_ _)); exact BK229.out⟩, ⟨(fB2 GE229 GE232)⟩⟩
       ·replace c12 := Bool.eq_false_iff.mpr c12
        subst c12
        rw [if_neg (show ¬ (false = true) by decide)] at H
        have H' := Aside0.mk H
        clear H
        have p231 : 0 ≤ (x19_1 : Int) := of_decide_eq_true (by first | (with_reducible assumption) | assumption)
        have q231 : x19_1 < (l0_0.length : Int) := of_decide_eq_true (by first | (with_reducible assumption) | assumption)
        obtain ⟨ad231, e231, hx231_0, hx231_1, hx231_2, hx231_3⟩ := at_T52 HR0_0.out x19_1 p231 q231
        cases e231
        replace hx231_0 := (HB.out.cell (World.block_lt_of_cell? w _ hx231_0)).trans hx231_0
        replace hx231_1 := (HB.out.cell (World.block_lt_of_cell? w _ hx231_1)).trans hx231_1
        replace hx231_2 := (HB.out.cell (World.block_lt_of_cell? w _ hx231_2)).trans hx231_2
        replace hx231_3 := (HB.out.cell (World.block_lt_of_cell? w _ hx231_3)).trans hx231_3
        replace p231 := eq_true p231
        replace q231 := eq_true q231
        go_wp2_with (first | ((with_reducible refine gate_dst (N := 10) rfl ?_); refine box_event ?hg (N := 10) ?hd (cs := #[.string (⟨#[]⟩ : ByteArray), .int .i64 0, .int .i64 0, .int .i64 0]) (t := 52) ?hr ?_; (case hd => rfl); (case hg => rfl); (case hr => first | (go_simp; done) | (go_simp; rfl)); intro gb232 hg w20 hbox hb; have n0_ := Aside0.mk (blk_below (g := gb229) (o := .cells #[.slice (some ad231) l0_0.length c0_0, .slice A0_1 l0_1.length c0_1] 28 (0, 0)) (fA1 BK229) hb); have n1_ := Aside0.mk (below_step (fB1 GE229) hb); have n2_ := Aside0.mk (hbox); have n3_ := Aside0.mk ((by rw [hg]; exact (below_size (fB1 GE229)) : w.heap.size ≤ gb232)); have n4_ := Aside0.mk ((by rw [hg]; exact (below_size (fB1 GE229)) : w.heap.size ≤ gb232)); have n5_ := Aside0.mk ((by rw [hg]; exact Nat.ne_of_lt (blk_lt (g := gb229) (o := .cells #[.slice (some ad231) l0_0.length c0_0, .slice A0_1 l0_1.length c0_1] 28 (0, 0)) (fA1 BK229)) : gb229 ≠ gb232)); have n6_ := Aside0.mk ((by rw [hg]; exact Nat.ne_of_gt (blk_lt (g := gb229) (o := .cells #[.slice (some ad231) l0_0.length c0_0, .slice A0_1 l0_1.length c0_1] 28 (0, 0)) (fA1 BK229)) : gb232 ≠ gb229)); clear BK229; clear HB; have BK229 := n0_; have HB := n1_; have BK232 := n2_; have GW232 := n3_; have GE232 := n4_; have NB229_232 := n5_; have NB232_229 := n6_; clear n0_ n1_ n2_ n3_ n4_ n5_ n6_; clear hb hbox hg; have hnb21 := NB232_229.out; have hnc21 := NB229_232.out; have hcz22_0 : w20.cell? ⟨gb232, 0, none⟩ = some (.string (⟨#[]⟩ : ByteArray)) := (blk_cell BK232.out 0).trans rfl; have hcz22_1 : w20.cell? ⟨gb232, 1, none⟩ = some (.int .i64 0) := (blk_cell BK232.out 1).trans rfl; have hcz22_2 : w20.cell? ⟨gb232, 2, none⟩ = some (.int .i64 0) := (blk_cell BK232.out 2).trans rfl; have hcz22_3 : w20.cell? ⟨gb232, 3, none⟩ = some (.int .i64 0) := (blk_cell BK232.out 3).trans rfl; have hfz22_0 := blk_frozen BK232.out 0; have hfz22_1 := blk_frozen BK232.out 1; have hfz22_2 := blk_frozen BK232.out 2; have hfz22_3 := blk_frozen BK232.out 3) | (go_at_call 47; (with_reducible refine (selecttab_wide.calls a1 t233 _ A10.out).mono ?_); rintro e w' ⟨rfl, ⟨nd, rfl⟩⟩; (try first | exact ⟨rfl, _, World.drewN_drewN _ _ _⟩ | exact ⟨rfl, _, Eq.trans (World.drewN_drewN _ _ _) (congrArg (World.drewN _) (Nat.add_assoc _ _ _))⟩)) | (go_at_call 46; (with_reducible refine (addr_In.calls k1 t233 ((rd_T52 l0_0 x19_1).f0) ((rd_T52 l0_0 x19_1).f1) false _ A11.out).mono ?_); rintro e w' ⟨rfl, ⟨nd, rfl⟩⟩; (try first | exact ⟨rfl, _, World.drewN_drewN _ _ _⟩ | exact ⟨rfl, _, Eq.trans (World.drewN_drewN _ _ _) (congrArg (World.drewN _) (Nat.add_assoc _ _ _))⟩)))
        repeat (go_quiet (first | ((with_reducible refine gate_dst (N := 10) rfl ?_); refine box_event ?hg (N := 10) ?hd (cs := #[.string (⟨#[]⟩ : ByteArray), .int .i64 0, .int .i64 0, .int .i64 0]) (t := 52) ?hr ?_; (case hd => rfl); (case hg => rfl); (case hr => first | (go_simp; done) | (go_simp; rfl)); intro gb232 hg w20 hbox hb; have n0_ := Aside0.mk (blk_below (g := gb229) (o := .cells #[.slice (some ad231) l0_0.length c0_0, .slice A0_1 l0_1.length c0_1] 28 (0, 0)) (fA1 BK229) hb); have n1_ := Aside0.mk (below_step (fB1 GE229) hb); have n2_ := Aside0.mk (hbox); have n3_ := Aside0.mk ((by rw [hg]; exact (below_size (fB1 GE229)) : w.heap.size ≤ gb232)); have n4_ := Aside0.mk ((by rw [hg]; exact (below_size (fB1 GE229)) : w.heap.size ≤ gb232)); have n5_ := Aside0.mk ((by rw [hg]; exact Nat.ne_of_lt (blk_lt (g := gb229) (o := .cells #[.slice (some ad231) l0_0.length c0_0, .slice A0_1 l0_1.length c0_1] 28 (0, 0)) (fA1 BK229)) : gb229 ≠ gb232)); have n6_ := Aside0.mk ((by rw [hg]; exact Nat.ne_of_gt (blk_lt (g := gb229) (o := .cells #[.slice (some ad231) l0_0.length c0_0, .slice A0_1 l0_1.length c0_1] 28 (0, 0)) (fA1 BK229)) : gb232 ≠ gb229)); clear BK229; clear HB; have BK229 := n0_; have HB := n1_; have BK232 := n2_; have GW232 := n3_; have GE232 := n4_; have NB229_232 := n5_; have NB232_229 := n6_; clear n0_ n1_ n2_ n3_ n4_ n5_ n6_; clear hb hbox hg; have hnb21 := NB232_229.out; have hnc21 := NB229_232.out; have hcz22_0 : w20.cell? ⟨gb232, 0, none⟩ = some (.string (⟨#[]⟩ : ByteArray)) := (blk_cell BK232.out 0).trans rfl; have hcz22_1 : w20.cell? ⟨gb232, 1, none⟩ = some (.int .i64 0) := (blk_cell BK232.out 1).trans rfl; have hcz22_2 : w20.cell? ⟨gb232, 2, none⟩ = some (.int .i64 0) := (blk_cell BK232.out 2).trans rfl; have hcz22_3 : w20.cell? ⟨gb232, 3, none⟩ = some (.int .i64 0) := (blk_cell BK232.out 3).trans rfl; have hfz22_0 := blk_frozen BK232.out 0; have hfz22_1 := blk_frozen BK232.out 1; have hfz22_2 := blk_frozen BK232.out 2; have hfz22_3 := blk_frozen BK232.out 3) | (go_at_call 47; (with_reducible refine (selecttab_wide.calls a1 t233 _ A10.out).mono ?_); rintro e w' ⟨rfl, ⟨nd, rfl⟩⟩; (try first | exact ⟨rfl, _, World.drewN_drewN _ _ _⟩ | exact ⟨rfl, _, Eq.trans (World.drewN_drewN _ _ _) (congrArg (World.drewN _) (Nat.add_assoc _ _ _))⟩)) | (go_at_call 46; (with_reducible refine (addr_In.calls k1 t233 ((rd_T52 l0_0 x19_1).f0) ((rd_T52 l0_0 x19_1).f1) false _ A11.out).mono ?_); rintro e w' ⟨rfl, ⟨nd, rfl⟩⟩; (try first | exact ⟨rfl, _, World.drewN_drewN _ _ _⟩ | exact ⟨rfl, _, Eq.trans (World.drewN_drewN _ _ _) (congrArg (World.drewN _) (Nat.add_assoc _ _ _))⟩))); try go_wp2_with (first | ((with_reducible refine gate_dst (N := 10) rfl ?_); refine box_event ?hg (N := 10) ?hd (cs := #[.string (⟨#[]⟩ : ByteArray), .int .i64 0, .int .i64 0, .int .i64 0]) (t := 52) ?hr ?_; (case hd => rfl); (case hg => rfl); (case hr => first | (go_simp; done) | (go_simp; rfl)); intro gb232 hg w20 hbox hb; have n0_ := Aside0.mk (blk_below (g := gb229) (o := .cells #[.slice (some ad231) l0_0.length c0_0, .slice A0_1 l0_1.length c0_1] 28 (0, 0)) (fA1 BK229) hb); have n1_ := Aside0.mk (below_step (fB1 GE229) hb); have n2_ := Aside0.mk (hbox); have n3_ := Aside0.mk ((by rw [hg]; exact (below_size (fB1 GE229)) : w.heap.size ≤ gb232)); have n4_ := Aside0.mk ((by rw [hg]; exact (below_size (fB1 GE229)) : w.heap.size ≤ gb232)); have n5_ := Aside0.mk ((by rw [hg]; exact Nat.ne_of_lt (blk_lt (g := gb229) (o := .cells #[.slice (some ad231) l0_0.length c0_0, .slice A0_1 l0_1.length c0_1] 28 (0, 0)) (fA1 BK229)) : gb229 ≠ gb232)); have n6_ := Aside0.mk ((by rw [hg]; exact Nat.ne_of_gt (blk_lt (g := gb229) (o := .cells #[.slice (some ad231) l0_0.length c0_0, .slice A0_1 l0_1.length c0_1] 28 (0, 0)) (fA1 BK229)) : gb232 ≠ gb229)); clear BK229; clear HB; have BK229 := n0_; have HB := n1_; have BK232 := n2_; have GW232 := n3_; have GE232 := n4_; have NB229_232 := n5_; have NB232_229 := n6_; clear n0_ n1_ n2_ n3_ n4_ n5_ n6_; clear hb hbox hg; have hnb21 := NB232_229.out; have hnc21 := NB229_232.out; have hcz22_0 : w20.cell? ⟨gb232, 0, none⟩ = some (.string (⟨#[]⟩ : ByteArray)) := (blk_cell BK232.out 0).trans rfl; have hcz22_1 : w20.cell? ⟨gb232, 1, none⟩ = some (.int .i64 0) := (blk_cell BK232.out 1).trans rfl; have hcz22_2 : w20.cell? ⟨gb232, 2, none⟩ = some (.int .i64 0) := (blk_cell BK232.out 2).trans rfl; have hcz22_3 : w20.cell? ⟨gb232, 3, none⟩ = some (.int .i64 0) := (blk_cell BK232.out 3).trans rfl; have hfz22_0 := blk_frozen BK232.out 0; have hfz22_1 := blk_frozen BK232.out 1; have hfz22_2 := blk_frozen BK232.out 2; have hfz22_3 := blk_frozen BK232.out 3) | (go_at_call 47; (with_reducible refine (selecttab_wide.calls a1 t233 _ A10.out).mono ?_); rintro e w' ⟨rfl, ⟨nd, rfl⟩⟩; (try first | exact ⟨rfl, _, World.drewN_drewN _ _ _⟩ | exact ⟨rfl, _, Eq.trans (World.drewN_drewN _ _ _) (congrArg (World.drewN _) (Nat.add_assoc _ _ _))⟩)) | (go_at_call 46; (with_reducible refine (addr_In.calls k1 t233 ((rd_T52 l0_0 x19_1).f0) ((rd_T52 l0_0 x19_1).f1) false _ A11.out).mono ?_); rintro e w' ⟨rfl, ⟨nd, rfl⟩⟩; (try first | exact ⟨rfl, _, World.drewN_drewN _ _ _⟩ | exact ⟨rfl, _, Eq.trans (World.drewN_drewN _ _ _) (congrArg (World.drewN _) (Nat.add_assoc _ _ _))⟩))))
        go_roundg k1
        case measure => have := HK1.out; omega
        case rel => exact ⟨(x6_1), (x7_1), (x8_1), (wrap64 (x19_1 + 1)), s1_, s1_, s1_, s1_, H', ⟨by have := HK1.out; omega⟩, ⟨by (with_reducible repeat (first | refine blk_drewN ?_ _ | refine blk_drew ?_ | refine blk_alloc ?_ _)); refine blk_far ?_ NB229_232.out _; (with_reducible repeat (first | refine blk_drewN ?_ _ | refine blk_drew ?_ | refine blk_alloc ?_ _)); refine blk_far ?_ NB229_232.out _; (with_reducible repeat (first | refine blk_drewN ?_ _ | refine blk_drew ?_ | refine blk_alloc ?_ _)); refine blk_far ?_ NB229_232.out _; (with_reducible repeat (first | refine blk_drewN ?_ _ | refine blk_drew ?_ | refine blk_alloc ?_ _)); refine blk_far ?_ NB229_232.out _; (with_reducible repeat (first | refine blk_drewN ?_ _ | refine blk_drew ?_ | refine blk_alloc ?_ _)); exact BK229.out⟩, ⟨(fB2 GE229 GE232)⟩⟩
      ·rw [if_neg c9] at H
       exact absurd H (by simp)
     ·rw [if_neg c8] at H
      exact absurd H (by simp)
    ·rw [if_neg c7] at H
     have c7b0 : decide (x19_1 < (l0_0.length : Int)) = false := decide_eq_false c7
     clear c7
     simp only [Option.some.injEq, Prod.mk.injEq] at H
     obtain ⟨rfl, rfl⟩ := H
     go_wp2
     repeat (go_quiet (fail); try go_wp2)
     go_ret2
     exact ⟨by first | rfl | (simp [errW_none, errW_some] <;> rfl) | (simp [*, errW_none, errW_some] <;> rfl), (fB1 GE229)⟩
 ·replace c4 := Bool.eq_false_iff.mpr c4
  subst c4
  rw [if_neg (show ¬ (false = true) by decide)] at H
  simp only [Option.some.injEq, Prod.mk.injEq] at H
  obtain ⟨rfl, rfl⟩ := H
  go_enter Try.func29, Try.ntmps29
  go_wp2_with (first | ((with_reducible refine gate_dst (N := 2) rfl ?_); refine box_event ?hg (N := 2) ?hd (cs := #[.slice A0_0 l0_0.length c0_0, .slice A0_1 l0_1.length c0_1]) (t := 28) ?hr ?_; (case hd => rfl); (case hg => rfl); (case hr => first | (go_simp; done) | (go_simp; rfl)); intro gb229 hg w23 hbox hb; have n0_ := Aside0.mk (below_step (fB0) hb); have n1_ := Aside0.mk (hbox); have n2_ := Aside0.mk ((by rw [hg]; exact (below_size (fB0)) : w.heap.size ≤ gb229)); have n3_ := Aside0.mk ((by rw [hg]; exact (below_size (fB0)) : w.heap.size ≤ gb229)); clear HB; have HB := n0_; have BK229 := n1_; have GW229 := n2_; have GE229 := n3_; clear n0_ n1_ n2_ n3_; clear hb hbox hg) | (go_at_call 45; (with_reducible refine (addr_Is.calls a1 false _ A3.out).mono ?_); rintro e w' ⟨rfl, ⟨nd, rfl⟩⟩; (try first | exact ⟨rfl, _, World.drewN_drewN _ _ _⟩ | exact ⟨rfl, _, Eq.trans (World.drewN_drewN _ _ _) (congrArg (World.drewN _) (Nat.add_assoc _ _ _))⟩)))
  repeat (go_quiet (first | ((with_reducible refine gate_dst (N := 2) rfl ?_); refine box_event ?hg (N := 2) ?hd (cs := #[.slice A0_0 l0_0.length c0_0, .slice A0_1 l0_1.length c0_1]) (t := 28) ?hr ?_; (case hd => rfl); (case hg => rfl); (case hr => first | (go_simp; done) | (go_simp; rfl)); intro gb229 hg w23 hbox hb; have n0_ := Aside0.mk (below_step (fB0) hb); have n1_ := Aside0.mk (hbox); have n2_ := Aside0.mk ((by rw [hg]; exact (below_size (fB0)) : w.heap.size ≤ gb229)); have n3_ := Aside0.mk ((by rw [hg]; exact (below_size (fB0)) : w.heap.size ≤ gb229)); clear HB; have HB := n0_; have BK229 := n1_; have GW229 := n2_; have GE229 := n3_; clear n0_ n1_ n2_ n3_; clear hb hbox hg) | (go_at_call 45; (with_reducible refine (addr_Is.calls a1 false _ A3.out).mono ?_); rintro e w' ⟨rfl, ⟨nd, rfl⟩⟩; (try first | exact ⟨rfl, _, World.drewN_drewN _ _ _⟩ | exact ⟨rfl, _, Eq.trans (World.drewN_drewN _ _ _) (congrArg (World.drewN _) (Nat.add_assoc _ _ _))⟩))); try go_wp2_with (first | ((with_reducible refine gate_dst (N := 2) rfl ?_); refine box_event ?hg (N := 2) ?hd (cs := #[.slice A0_0 l0_0.length c0_0, .slice A0_1 l0_1.length c0_1]) (t := 28) ?hr ?_; (case hd => rfl); (case hg => rfl); (case hr => first | (go_simp; done) | (go_simp; rfl)); intro gb229 hg w23 hbox hb; have n0_ := Aside0.mk (below_step (fB0) hb); have n1_ := Aside0.mk (hbox); have n2_ := Aside0.mk ((by rw [hg]; exact (below_size (fB0)) : w.heap.size ≤ gb229)); have n3_ := Aside0.mk ((by rw [hg]; exact (below_size (fB0)) : w.heap.size ≤ gb229)); clear HB; have HB := n0_; have BK229 := n1_; have GW229 := n2_; have GE229 := n3_; clear n0_ n1_ n2_ n3_; clear hb hbox hg) | (go_at_call 45; (with_reducible refine (addr_Is.calls a1 false _ A3.out).mono ?_); rintro e w' ⟨rfl, ⟨nd, rfl⟩⟩; (try first | exact ⟨rfl, _, World.drewN_drewN _ _ _⟩ | exact ⟨rfl, _, Eq.trans (World.drewN_drewN _ _ _) (congrArg (World.drewN _) (Nat.add_assoc _ _ _))⟩))))
  go_ret2
  exact ⟨by first | rfl | (simp [errW_none, errW_some] <;> rfl) | (simp [*, errW_none, errW_some] <;> rfl), (fB1 GE229)⟩
end Go.Proofs.Ytlfhahnceeoegaa.All
end
section
namespace Go.Proofs.Ytlfhahnceeoegaa.All
open Go.RowKit Go.Proofs.YtlfhahnceeoegaaW.PrintWords Go.Proofs.YtlfhahnceeoegaaW.PrintLast Go.Proofs.YtlfhahnceeoegaaW.PrintMore
set_option linter.unusedVariables false
set_option linter.unusedSimpArgs false
mutual
def selecttab_Scope.j0 : Nat → ByteArray → Bool → Option (Int)
 | 0, _, _ => none
 | k + 1, x0, x3 => if x3 = true then (some 2) else (if (x0.size : Int) = 4 then (some 14) else (if (x0.size : Int) = 16 then (if x0.toList = ([0, 0, 0, 0, 0, 0, 0, 0, 0, 0, 0, 0, 0, 0, 0, 1] : List UInt8) then (selecttab_Scope.j1 k x0 true) else (if 0 < (x0.size : Int) then (if (bt x0 0) = 254 then (if 1 < (x0.size : Int) then (selecttab_Scope.j1 k x0 ((Go.bits .and .u8 (bt x0 1) 192) == 128)) else (none)) else (selecttab_Scope.j1 k x0 false)) else (none))) else (some 0)))
def selecttab_Scope.j1 : Nat → ByteArray → Bool → Option (Int)
 | 0, _, _ => none
 | k + 1, x0, x30 => if x30 = true then (some 2) else (if 0 < (x0.size : Int) then (if (bt x0 0) = 255 then (if 1 < (x0.size : Int) then (some (wrap64 (Go.bits .and .u8 (bt x0 1) 15))) else (none)) else (some 14)) else (none))
end
def selecttab_Scope.f (k : Nat) (a0 : ByteArray) : Option (Int) := if (a0.size : Int) = 4 then (if 0 < (a0.size : Int) then (if (bt a0 0) = 127 then (selecttab_Scope.j0 k a0 true) else (if (bt a0 0) = 169 then (if 1 < (a0.size : Int) then (selecttab_Scope.j0 k a0 ((bt a0 1) == 254)) else (none)) else (selecttab_Scope.j0 k a0 false))) else (none)) else (selecttab_Scope.j0 k a0 false)
set_option maxHeartbeats 8000000 in
set_option maxRecDepth 100000 in
theorem selecttab_Scope.calls (k : Nat) (a0 : ByteArray) (r : Int) (w : World) (h : selecttab_Scope.f k a0 = some r) :
  Calls Try.prog 30 #[.string a0] w fun e w' => e = .returned (.int .i64 r) ∧ Below w.heap.size w w' := by
 have HB := Aside0.mk (Below.refl w.heap.size w)
 have H : (if (a0.size : Int) = 4 then (if 0 < (a0.size : Int) then (if (bt a0 0) = 127 then (selecttab_Scope.j0 k a0 true) else (if (bt a0 0) = 169 then (if 1 < (a0.size : Int) then (selecttab_Scope.j0 k a0 ((bt a0 1) == 254)) else (none)) else (selecttab_Scope.j0 k a0 false))) else (none)) else (selecttab_Scope.j0 k a0 false)) = some r := h
 clear h
 have HC2 := Aside0.mk H
 clear H
 go_enter Try.func30, Try.ntmps30
 go_upto_region 1 with (fail)
 go_cut [3] (fun v3 wc => ∃ (kq : Nat) (x3_1 : Bool), v3 = .bool x3_1 ∧ Aside0 (selecttab_Scope.j0 kq a0 x3_1 = some r) ∧ Aside0 (kq ≤ k) ∧ Aside0 (Below w.heap.size w wc))
 case first =>
  have H := HC2.out
  clear HC2
  by_cases c3 : (a0.size : Int) = 4
  ·rw [if_pos c3] at H
   have c3b0 : ((a0.size : Int) == 4) = true := beq_iff_eq.mpr c3
   have c3b1 : ((a0.size : Int) != 4) = false := bne_eq_false_iff_eq.mpr c3
   clear c3
   (first | rw [c3b0] | (simp only [i64_w, i32_w]; rw [c3b0]) | skip)
   by_cases c4 : 0 < (a0.size : Int)
   ·rw [if_pos c4] at H
    have c4b0 : decide (0 < (a0.size : Int)) = true := decide_eq_true c4
    have c4b1 : decide (0 < a0.size) = true := decide_eq_true (by omega)
    clear c4
    by_cases c6 : (bt a0 0) = 127
    ·rw [if_pos c6] at H
     have c6b0 : ((bt a0 0) == 127) = true := beq_iff_eq.mpr c6
     have c6b1 : ((bt a0 0) != 127) = false := bne_eq_false_iff_eq.mpr c6
     clear c6
     have H' := Aside0.mk H
     clear H
     have p5 : 0 ≤ (0 : Int) := (by omega)
     have q5 : 0 < a0.size := (by have : (0 : Int) < (a0.size : Int) := of_decide_eq_true (by first | (with_reducible assumption) | assumption); omega)
     have hx5 : ∀ h : 0 < a0.size, ((a0[0]'h).toNat : Int) = bt a0 0 := bt_at a0 0
     clear p5
     have qi5 : (0 < (a0.size : Int)) = True := eq_true (of_decide_eq_true (by first | (with_reducible assumption) | assumption))
     replace q5 := eq_true q5
     go_wp2
     go_meet
     case rel => exact ⟨_, (true), s1_, H', ⟨by first | omega | exact Nat.le_refl _⟩, ⟨(fB0)⟩⟩
    ·rw [if_neg c6] at H
     have c6b0 : ((bt a0 0) == 127) = false := beq_eq_false_iff_ne.mpr c6
     have c6b1 : ((bt a0 0) != 127) = true := bne_iff_ne.mpr c6
     by_cases c8 : (bt a0 0) = 169
     ·rw [if_pos c8] at H
      have c8b0 : ((bt a0 0) == 169) = true := beq_iff_eq.mpr c8
      have c8b1 : ((bt a0 0) != 169) = false := bne_eq_false_iff_eq.mpr c8
      clear c8
      by_cases c9 : 1 < (a0.size : Int)
      ·rw [if_pos c9] at H
       have c9b0 : decide (1 < (a0.size : Int)) = true := decide_eq_true c9
       have c9b1 : decide (1 < a0.size) = true := decide_eq_true (by omega)
       clear c9
       have H' := Aside0.mk H
       clear H
       have p5 : 0 ≤ (0 : Int) := (by omega)
       have q5 : 0 < a0.size := (by have : (0 : Int) < (a0.size : Int) := of_decide_eq_true (by first | (with_reducible assumption) | assumption); omega)
       have hx5 : ∀ h : 0 < a0.size, ((a0[0]'h).toNat : Int) = bt a0 0 := bt_at a0 0
       clear p5
       have qi5 : (0 < (a0.size : Int)) = True := eq_true (of_decide_eq_true (by first | (with_reducible assumption) | assumption))
       replace q5 := eq_true q5
       have p7 : 0 ≤ (0 : Int) := (by omega)
       have q7 : 0 < a0.size := (by have : (0 : Int) < (a0.size : Int) := of_decide_eq_true (by first | (with_reducible assumption) | assumption); omega)
       have hx7 : ∀ h : 0 < a0.size, ((a0[0]'h).toNat : Int) = bt a0 0 := bt_at a0 0
       clear p7
       have qi7 : (0 < (a0.size : Int)) = True := eq_true (of_decide_eq_true (by first | (with_reducible assumption) | assumption))
       replace q7 := eq_true q7
       have p10 : 0 ≤ (1 : Int) := (by omega)
       have q10 : 1 < a0.size := (by have : (1 : Int) < (a0.size : Int) := of_decide_eq_true (by first | (with_reducible assumption) | assumption); omega)
       have hx10 : ∀ h : 1 < a0.size, ((a0[1]'h).toNat : Int) = bt a0 1 := bt_at a0 1
       clear p10
       have qi10 : (1 < (a0.size : Int)) = True := eq_true (of_decide_eq_true (by first | (with_reducible assumption) | assumption))
       replace q10 := eq_true q10
       go_wp2
       go_meet
       case rel => exact ⟨_, (((bt a0 1) == 254)), s1_, H', ⟨by first | omega | exact Nat.le_refl _⟩, ⟨(fB0)⟩⟩
      ·rw [if_neg c9] at H
       exact absurd H (by simp)
     ·rw [if_neg c8] at H
      have c8b0 : ((bt a0 0) == 169) = false := beq_eq_false_iff_ne.mpr c8
      have c8b1 : ((bt a0 0) != 169) = true := bne_iff_ne.mpr c8
      have H' := Aside0.mk H
      clear H
      have p5 : 0 ≤ (0 : Int) := (by omega)
      have q5 : 0 < a0.size := (by have : (0 : Int) < (a0.size : Int) := of_decide_eq_true (by first | (with_reducible assumption) | assumption); omega)
      have hx5 : ∀ h : 0 < a0.size, ((a0[0]'h).toNat : Int) = bt a0 0 := bt_at a0 0
      clear p5
      have qi5 : (0 < (a0.size : Int)) = True := eq_true (of_decide_eq_true (by first | (with_reducible assumption) | assumption))
      replace q5 := eq_true q5
      have p7 : 0 ≤ (0 : Int) := (by omega)
      have q7 : 0 < a0.size := (by have : (0 : Int) < (a0.size : Int) := of_decide_eq_true (by first | (with_reducible assumption) | assumption); omega)
      have hx7 : ∀ h : 0 < a0.size, ((a0[0]'h).toNat : Int) = bt a0 0 := bt_at a0 0
      clear p7
      have qi7 : (0 < (a0.size : Int)) = True := eq_true (of_decide_eq_true (by first | (with_reducible assumption) | assumption))
      replace q7 := eq_true q7
      go_wp2
      go_meet
      case rel => exact ⟨_, (false), s1_, H', ⟨by first | omega | exact Nat.le_refl _⟩, ⟨(fB0)⟩⟩
   ·rw [if_neg c4] at H
    exact absurd H (by simp)
  ·rw [if_neg c3] at H
   have c3b0 : ((a0.size : Int) == 4) = false := beq_eq_false_iff_ne.mpr c3
   have c3b1 : ((a0.size : Int) != 4) = true := bne_iff_ne.mpr c3
   (first | rw [c3b0] | (simp only [i64_w, i32_w]; rw [c3b0]) | skip)
   have H' := Aside0.mk H
   clear H
   go_wp2
   go_meet
   case rel => exact ⟨_, (false), s1_, H', ⟨by first | omega | exact Nat.le_refl _⟩, ⟨(fB0)⟩⟩
 case rest =>
  clear HC2
  try clear p1
  try clear q1
  try clear hx1
  try clear qi1
  try clear p2
  try clear c3
  try clear c3b0
  try clear c3b1
  try clear c4
  try clear c4b0
  try clear c4b1
  try clear p5
  try clear q5
  try clear hx5
  try clear qi5
  try clear c6
  try clear c6b0
  try clear c6b1
  try clear p7
  try clear q7
  try clear hx7
  try clear qi7
  try clear c8
  try clear c8b0
  try clear c8b1
  try clear c9
  try clear c9b0
  try clear c9b1
  try clear p10
  try clear q10
  try clear hx10
  try clear qi10
  try clear p10
  try clear p5
  try clear p7
  try clear q10
  try clear q5
  try clear q7
  obtain ⟨kq, x3_1, rfl, HA, HJ1, HB⟩ := hcut
  cases kq with
  | zero => exact absurd HA.out (by simp [selecttab_Scope.j0])
  | succ kj1 =>
   have H := HA.out
   clear HA
   simp only [selecttab_Scope.j0] at H
   by_cases c11 : x3_1 = true
   ·subst c11
    rw [if_pos rfl] at H
    obtain rfl := Option.some.inj H
    go_wp2
    go_ret
    exact ⟨by first | rfl | (simp [errW_none, errW_some] <;> rfl) | (simp [*, errW_none, errW_some] <;> rfl), (fB0)⟩
   ·replace c11 := Bool.eq_false_iff.mpr c11
    subst c11
    rw [if_neg (show ¬ (false = true) by decide)] at H
    by_cases c12 : (a0.size : Int) = 4
    ·rw [if_pos c12] at H
     have c12b0 : ((a0.size : Int) == 4) = true := beq_iff_eq.mpr c12
     have c12b1 : ((a0.size : Int) != 4) = false := bne_eq_false_iff_eq.mpr c12
     clear c12
     obtain rfl := Option.some.inj H
     go_wp2
     go_ret
     exact ⟨by first | rfl | (simp [errW_none, errW_some] <;> rfl) | (simp [*, errW_none, errW_some] <;> rfl), (fB0)⟩
    ·rw [if_neg c12] at H
     have c12b0 : ((a0.size : Int) == 4) = false := beq_eq_false_iff_ne.mpr c12
     have c12b1 : ((a0.size : Int) != 4) = true := bne_iff_ne.mpr c12
     by_cases c13 : (a0.size : Int) = 16
     ·rw [if_pos c13] at H
      have c13b0 : ((a0.size : Int) == 16) = true := beq_iff_eq.mpr c13
      have c13b1 : ((a0.size : Int) != 16) = false := bne_eq_false_iff_eq.mpr c13
      clear c13
      have HC14 := Aside0.mk H
      clear H
      go_upto_region 7 with (fail)
      go_cut [30] (fun v30 wc => ∃ (kq : Nat) (x30_13 : Bool), v30 = .bool x30_13 ∧ Aside0 (selecttab_Scope.j1 kq a0 x30_13 = some r) ∧ Aside0 (kq ≤ kj1) ∧ Aside0 (Below w.heap.size w wc))
      case first =>
       have H := HC14.out
       clear HC14
       by_cases c15 : a0.toList = ([0, 0, 0, 0, 0, 0, 0, 0, 0, 0, 0, 0, 0, 0, 0, 1] : List UInt8)
       ·rw [if_pos c15] at H
        have c15b0 : (a0.toList == ([0, 0, 0, 0, 0, 0, 0, 0, 0, 0, 0, 0, 0, 0, 0, 1] : List UInt8)) = true := beq_iff_eq.mpr c15
        have c15b1 : (a0.toList != ([0, 0, 0, 0, 0, 0, 0, 0, 0, 0, 0, 0, 0, 0, 0, 1] : List UInt8)) = false := bne_eq_false_iff_eq.mpr c15
        clear c15
        (first | rw [c15b0] | (simp only [i64_w, i32_w]; rw [c15b0]) | skip)
        have H' := Aside0.mk H
        clear H
        go_wp2
        go_meet
        case rel => exact ⟨_, (true), s1_, H', ⟨by have := HJ1.out; first | omega | exact Nat.le_refl _⟩, ⟨(fB0)⟩⟩
       ·rw [if_neg c15] at H
        have c15b0 : (a0.toList == ([0, 0, 0, 0, 0, 0, 0, 0, 0, 0, 0, 0, 0, 0, 0, 1] : List UInt8)) = false := beq_eq_false_iff_ne.mpr c15
        have c15b1 : (a0.toList != ([0, 0, 0, 0, 0, 0, 0, 0, 0, 0, 0, 0, 0, 0, 0, 1] : List UInt8)) = true := bne_iff_ne.mpr c15
        (first | rw [c15b0] | (simp only [i64_w, i32_w]; rw [c15b0]) | skip)
        by_cases c16 : 0 < (a0.size : Int)
        ·rw [if_pos c16] at H
         have c16b0 : decide (0 < (a0.size : Int)) = true := decide_eq_true c16
         have c16b1 : decide (0 < a0.size) = true := decide_eq_true (by omega)
         clear c16
         by_cases c18 : (bt a0 0) = 254
         ·rw [if_pos c18] at H
          have c18b0 : ((bt a0 0) == 254) = true := beq_iff_eq.mpr c18
          have c18b1 : ((bt a0 0) != 254) = false := bne_eq_false_iff_eq.mpr c18
          clear c18
          by_cases c19 : 1 < (a0.size : Int)
          ·rw [if_pos c19] at H
           have c19b0 : decide (1 < (a0.size : Int)) = true := decide_eq_true c19
           have c19b1 : decide (1 < a0.size) = true := decide_eq_true (by omega)
           clear c19
           have H' := Aside0.mk H
           clear H
           have p17 : 0 ≤ (0 : Int) := (by omega)
           have q17 : 0 < a0.size := (by have : (0 : Int) < (a0.size : Int) := of_decide_eq_true (by first | (with_reducible assumption) | assumption); omega)
           have hx17 : ∀ h : 0 < a0.size, ((a0[0]'h).toNat : Int) = bt a0 0 := bt_at a0 0
           clear p17
           have qi17 : (0 < (a0.size : Int)) = True := eq_true (of_decide_eq_true (by first | (with_reducible assumption) | assumption))
           replace q17 := eq_true q17
           have p20 : 0 ≤ (1 : Int) := (by omega)
           have q20 : 1 < a0.size := (by have : (1 : Int) < (a0.size : Int) := of_decide_eq_true (by first | (with_reducible assumption) | assumption); omega)
           have hx20 : ∀ h : 1 < a0.size, ((a0[1]'h).toNat : Int) = bt a0 1 := bt_at a0 1
           clear p20
           have qi20 : (1 < (a0.size : Int)) = True := eq_true (of_decide_eq_true (by first | (with_reducible assumption) | assumption))
           replace q20 := eq_true q20
           go_wp2
           go_meet
           case rel => exact ⟨_, (((Go.bits .and .u8 (bt a0 1) 192) == 128)), s1_, H', ⟨by have := HJ1.out; first | omega | exact Nat.le_refl _⟩, ⟨(fB0)⟩⟩
          ·rw [if_neg c19] at H
           exact absurd H (by simp)
         ·rw [if_neg c18] at H
          have c18b0 : ((bt a0 0) == 254) = false := beq_eq_false_iff_ne.mpr c18
          have c18b1 : ((bt a0 0) != 254) = true := bne_iff_ne.mpr c18
          have H' := Aside0.mk H
          clear H
          have p17 : 0 ≤ (0 : Int) := (by omega)
          have q17 : 0 < a0.size := (by have : (0 : Int) < (a0.size : Int) := of_decide_eq_true (by first | (with_reducible assumption) | assumption); omega)
          have hx17 : ∀ h : 0 < a0.size, ((a0[0]'h).toNat : Int) = bt a0 0 := bt_at a0 0
          clear p17
          have qi17 : (0 < (a0.size : Int)) = True := eq_true (of_decide_eq_true (by first | (with_reducible assumption) | assumption))
          replace q17 := eq_true q17
          go_wp2
          go_meet
          case rel => exact ⟨_, (false), s1_, H', ⟨by have := HJ1.out; first | omega | exact Nat.le_refl _⟩, ⟨(fB0)⟩⟩
        ·rw [if_neg c16] at H
         exact absurd H (by simp)
      case rest =>
       clear HC14
       try clear c1
       try clear p1
       try clear q1
       try clear hx1
       try clear qi1
       try clear p2
       try clear q2
       try clear hx2
       try clear qi2
       try clear c3
       try clear c3b0
       try clear c3b1
       try clear c4
       try clear c4b0
       try clear c4b1
       try clear p5
       try clear q5
       try clear hx5
       try clear qi5
       try clear c6
       try clear c6b0
       try clear c6b1
       try clear p7
       try clear q7
       try clear hx7
       try clear qi7
       try clear c8
       try clear c8b0
       try clear c8b1
       try clear c9
       try clear c9b0
       try clear c9b1
       try clear p10
       try clear q10
       try clear hx10
       try clear qi10
       try clear c11
       try clear c12
       try clear c12b0
       try clear c12b1
       try clear c13
       try clear c13b0
       try clear c13b1
       try clear c15
       try clear c15b0
       try clear c15b1
       try clear c16
       try clear c16b0
       try clear c16b1
       try clear p17
       try clear q17
       try clear hx17
       try clear qi17
       try clear c18
       try clear c18b0
       try clear c18b1
       try clear c19
       try clear c19b0
       try clear c19b1
       try clear p20
       try clear q20
       try clear hx20
       try clear qi20
       try clear p1
       try clear p10
       try clear p17
       try clear p2
       try clear p20
       try clear p5
       try clear p7
       try clear q1
       try clear q10
       try clear q17
       try clear q20
       try clear q5
       try clear q7
       obtain ⟨kq, x30_13, rfl, HA, HJ13, HB⟩ := hcut
       cases kq with
       | zero => exact absurd HA.out (by simp [selecttab_Scope.j1])
       | succ kj13 =>
        have H := HA.out
        clear HA
        simp only [selecttab_Scope.j1] at H
        by_cases c21 : x30_13 = true
        ·subst c21
         rw [if_pos rfl] at H
         obtain rfl := Option.some.inj H
         go_wp2
         go_ret
         exact ⟨by first | rfl | (simp [errW_none, errW_some] <;> rfl) | (simp [*, errW_none, errW_some] <;> rfl), (fB0)⟩
        ·replace c21 := Bool.eq_false_iff.mpr c21
         subst c21
         rw [if_neg (show ¬ (false = true) by decide)] at H
         by_cases c22 : 0 < (a0.size : Int)
         ·rw [if_pos c22] at H
          have c22b0 : decide (0 < (a0.size : Int)) = true := decide_eq_true c22
          have c22b1 : decide (0 < a0.size) = true := decide_eq_true (by omega)
          clear c22
          by_cases c24 : (bt a0 0) = 255
          ·rw [if_pos c24] at H
           have c24b0 : ((bt a0 0) == 255) = true := beq_iff_eq.mpr c24
           have c24b1 : ((bt a0 0) != 255) = false := bne_eq_false_iff_eq.mpr c24
           clear c24
           by_cases c25 : 1 < (a0.size : Int)
           ·rw [if_pos c25] at H
            have c25b0 : decide (1 < (a0.size : Int)) = true := decide_eq_true c25
            have c25b1 : decide (1 < a0.size) = true := decide_eq_true (by omega)
            clear c25
            obtain rfl := Option.some.inj H
            have p23 : 0 ≤ (0 : Int) := (by omega)
            have q23 : 0 < a0.size := (by have : (0 : Int) < (a0.size : Int) := of_decide_eq_true (by first | (with_reducible assumption) | assumption); omega)
            have hx23 : ∀ h : 0 < a0.size, ((a0[0]'h).toNat : Int) = bt a0 0 := bt_at a0 0
            clear p23
            have qi23 : (0 < (a0.size : Int)) = True := eq_true (of_decide_eq_true (by first | (with_reducible assumption) | assumption))
            replace q23 := eq_true q23
            have p26 : 0 ≤ (1 : Int) := (by omega)
            have q26 : 1 < a0.size := (by have : (1 : Int) < (a0.size : Int) := of_decide_eq_true (by first | (with_reducible assumption) | assumption); omega)
            have hx26 : ∀ h : 1 < a0.size, ((a0[1]'h).toNat : Int) = bt a0 1 := bt_at a0 1
            clear p26
            have qi26 : (1 < (a0.size : Int)) = True := eq_true (of_decide_eq_true (by first | (with_reducible assumption) | assumption))
            replace q26 := eq_true q26
            go_wp2
            go_ret
            exact ⟨by first | rfl | (simp [errW_none, errW_some] <;> rfl) | (simp [*, errW_none, errW_some] <;> rfl), (fB0)⟩
           ·rw [if_neg c25] at H
            exact absurd H (by simp)
          ·rw [if_neg c24] at H
           have c24b0 : ((bt a0 0) == 255) = false := beq_eq_false_iff_ne.mpr c24
           have c24b1 : ((bt a0 0) != 255) = true := bne_iff_ne.mpr c24
           obtain rfl := Option.some.inj H
           have p23 : 0 ≤ (0 : Int) := (by omega)
           have q23 : 0 < a0.size := (by have : (0 : Int) < (a0.size : Int) := of_decide_eq_true (by first | (with_reducible assumption) | assumption); omega)
           have hx23 : ∀ h : 0 < a0.size, ((a0[0]'h).toNat : Int) = bt a0 0 := bt_at a0 0
           clear p23
           have qi23 : (0 < (a0.size : Int)) = True := eq_true (of_decide_eq_true (by first | (with_reducible assumption) | assumption))
           replace q23 := eq_true q23
           go_wp2
           go_ret
           exact ⟨by first | rfl | (simp [errW_none, errW_some] <;> rfl) | (simp [*, errW_none, errW_some] <;> rfl), (fB0)⟩
         ·rw [if_neg c22] at H
          exact absurd H (by simp)
     ·rw [if_neg c13] at H
      have c13b0 : ((a0.size : Int) == 16) = false := beq_eq_false_iff_ne.mpr c13
      have c13b1 : ((a0.size : Int) != 16) = true := bne_iff_ne.mpr c13
      obtain rfl := Option.some.inj H
      go_wp2
      go_ret
      exact ⟨by first | rfl | (simp [errW_none, errW_some] <;> rfl) | (simp [*, errW_none, errW_some] <;> rfl), (fB0)⟩
def order_worse.f (a0 : Bool) : Option (Int) := if a0 = true then (some 1) else (some 0)
set_option maxHeartbeats 8000000 in
set_option maxRecDepth 100000 in
theorem order_worse.calls (a0 : Bool) (r : Int) (w : World) (h : order_worse.f a0 = some r) :
  Calls Try.prog 31 #[.bool a0] w fun e w' => e = .returned (.int .i64 r) ∧ Drawn0 w w' := by
 have H : (if a0 = true then (some 1) else (some 0)) = some r := h
 clear h
 by_cases c2 : a0 = true
 ·subst c2
  rw [if_pos rfl] at H
  obtain rfl := Option.some.inj H
  go_enter Try.func31, Try.ntmps31
  go_wp2
  go_ret
  exact ⟨s1_, by repeat (first | exact Drawn0.refl _ | apply Drawn0.step)⟩
 ·replace c2 := Bool.eq_false_iff.mpr c2
  subst c2
  rw [if_neg (show ¬ (false = true) by decide)] at H
  obtain rfl := Option.some.inj H
  go_enter Try.func31, Try.ntmps31
  go_wp2
  go_ret
  exact ⟨s1_, by repeat (first | exact Drawn0.refl _ | apply Drawn0.step)⟩
end Go.Proofs.Ytlfhahnceeoegaa.All
end
section
namespace Go.Proofs.Ytlfhahnceeoegaa.All
open Go.RowKit Go.Proofs.YtlfhahnceeoegaaW.PrintWords Go.Proofs.YtlfhahnceeoegaaW.PrintLast Go.Proofs.YtlfhahnceeoegaaW.PrintMore
set_option linter.unusedVariables false
set_option linter.unusedSimpArgs false
def order_Keys.f (k : Nat) (l0_0 : List (S52)) (l0_1 : List ByteArray) (a1_0 : ByteArray) (a1_1 : ByteArray) : Option (Int × Int × Int × Int × Int × Int) := (selecttab_Row.f k l0_0 l0_1 a1_0).bind fun bt238 => ((selecttab_Row.f k l0_0 l0_1 a1_1).bind fun bt240 => ((selecttab_Scope.f k a1_0).bind fun t242 => ((order_worse.f (a1_1.toList == ([] : List UInt8))).bind fun t243 => (if a1_1.toList = ([] : List UInt8) then ((order_worse.f true).bind fun t244 => ((order_worse.f true).bind fun t245 => ((addr_Common.f k a1_0 a1_1).bind fun t246 => (some (t243, t244, t245, wrap64 (-bt238.2), t242, wrap64 (-t246)))))) else ((selecttab_Scope.f k a1_1).bind fun t247 => ((order_worse.f (t242 != t247)).bind fun t248 => ((order_worse.f (bt238.1 != bt240.1)).bind fun t249 => ((addr_Common.f k a1_0 a1_1).bind fun t250 => (some (t243, t248, t249, wrap64 (-bt238.2), t242, wrap64 (-t250)))))))))))
def order_Keys.T5 : Bool × List (List Nat × List Nat) := (true, [([], []), ([0], [0]), ([], []), ([2, 1], [2]), ([3], [3]), ([3], [3]), ([5, 3], [3, 5]), ([6, 3, 3], [3, 6]), ([4, 7, 3], [3, 4, 7]), ([3, 8], [3, 8]), ([9, 7], [9]), ([], []), ([11, 10], [11]), ([12], [12]), ([12], [12]), ([13, 14, 12], [12, 13, 14]), ([12, 15], [12, 15]), ([16, 12], [16]), ([], []), ([18], [18]), ([], []), ([], []), ([21], [21]), ([], []), ([23], [23]), ([22, 24, 17], [22, 24]), ([25], [25]), ([1, 10, 17, 19, 20, 26], [1, 10, 17, 19, 20, 26]), ([27, 25, 0, 1, 2, 3, 4, 5, 6, 7, 8, 9, 10, 11, 12, 13, 14, 15, 16, 17, 18, 19, 20, 21, 22, 23, 24, 25, 26, 27], [27])])
def order_Keys.B5 : List Nat := [0, 1, 0, 7, 15, 15, 47, 111, 255, 511, 1023, 0, 4095, 8191, 8191, 32767, 65535, 131071, 0, 262144, 0, 0, 2097152, 0, 8388608, 31719423, 65273855, 134217727, 268435455]
theorem order_Keys.tab5 : rtab .any (opsOf Try.f13 5) = order_Keys.T5 := by kernel_rfl
theorem order_Keys.bits5 : waitsOk order_Keys.T5.2 order_Keys.B5 = true := by kernel_rfl
set_option maxHeartbeats 8000000 in
set_option maxRecDepth 100000 in
theorem order_Keys.calls (k : Nat) (A0_0 : Option Addr) (c0_0 : Nat) (l0_0 : List (S52)) (A0_1 : Option Addr) (c0_1 : Nat) (l0_1 : List ByteArray) (a1_0 : ByteArray) (a1_1 : ByteArray) (r1 : Int) (r2 : Int) (r3 : Int) (r4 : Int) (r5 : Int) (r6 : Int) (w : World) (hr0_0 : Kd.C k52 w A0_0 l0_0.length l0_0) (hc0_0 : l0_0.length ≤ c0_0) (hr0_1 : Kd.C Kd.string w A0_1 l0_1.length l0_1) (hc0_1 : l0_1.length ≤ c0_1) (h : order_Keys.f k l0_0 l0_1 a1_0 a1_1 = some (r1, r2, r3, r4, r5, r6)) :
  Calls Try.prog 13 #[.agg #[.slice A0_0 l0_0.length c0_0, .slice A0_1 l0_1.length c0_1], .agg #[.string a1_0, .string a1_1]] w fun e w' => e = .returned (.agg #[.int .i64 r1, .int .i64 r2, .int .i64 r3, .int .i64 r4, .int .i64 r5, .int .i64 r6]) ∧ Below w.heap.size w w' := by
 have hu28 := Try.underlying28
 have hu34 := Try.underlying34
 have hu35 := Try.underlying35
 have HR0_0 := Aside0.mk hr0_0
 have HC0_0 := Aside0.mk hc0_0
 clear hr0_0 hc0_0
 have HR0_1 := Aside0.mk hr0_1
 have HC0_1 := Aside0.mk hc0_1
 clear hr0_1 hc0_1
 have HB := Aside0.mk (Below.refl w.heap.size w)
 have H : ((selecttab_Row.f k l0_0 l0_1 a1_0).bind fun bt238 => ((selecttab_Row.f k l0_0 l0_1 a1_1).bind fun bt240 => ((selecttab_Scope.f k a1_0).bind fun t242 => ((order_worse.f (a1_1.toList == ([] : List UInt8))).bind fun t243 => (if a1_1.toList = ([] : List UInt8) then ((order_worse.f true).bind fun t244 => ((order_worse.f true).bind fun t245 => ((addr_Common.f k a1_0 a1_1).bind fun t246 => (some (t243, t244, t245, wrap64 (-bt238.2), t242, wrap64 (-t246)))))) else ((selecttab_Scope.f k a1_1).bind fun t247 => ((order_worse.f (t242 != t247)).bind fun t248 => ((order_worse.f (bt238.1 != bt240.1)).bind fun t249 => ((addr_Common.f k a1_0 a1_1).bind fun t250 => (some (t243, t248, t249, wrap64 (-bt238.2), t242, wrap64 (-t250)))))))))))) = some (r1, r2, r3, r4, r5, r6) := h
 clear h
 replace H := Option.bind_eq_some_iff.mp H
 obtain ⟨⟨t238, t239⟩, A30, H⟩ := H
 have A3 := Aside0.mk A30
 clear A30
 replace H := Option.bind_eq_some_iff.mp H
 obtain ⟨⟨t240, t241⟩, A40, H⟩ := H
 have A4 := Aside0.mk A40
 clear A40
 replace H := Option.bind_eq_some_iff.mp H
 obtain ⟨t242, A50, H⟩ := H
 have A5 := Aside0.mk A50
 clear A50
 replace H := Option.bind_eq_some_iff.mp H
 obtain ⟨t243, A60, H⟩ := H
 have A6 := Aside0.mk A60
 clear A60
 by_cases c7 : a1_1.toList = ([] : List UInt8)
 ·rw [if_pos c7] at H
  have c7b0 : (a1_1.toList == ([] : List UInt8)) = true := beq_iff_eq.mpr c7
  have c7b1 : (a1_1.toList != ([] : List UInt8)) = false := bne_eq_false_iff_eq.mpr c7
  clear c7
  replace H := Option.bind_eq_some_iff.mp H
  obtain ⟨t244, A80, H⟩ := H
  have A8 := Aside0.mk A80
  clear A80
  replace H := Option.bind_eq_some_iff.mp H
  obtain ⟨t245, A90, H⟩ := H
  have A9 := Aside0.mk A90
  clear A90
  replace H := Option.bind_eq_some_iff.mp H
  obtain ⟨t246, A100, H⟩ := H
  have A10 := Aside0.mk A100
  clear A100
  simp only [Option.some.injEq, Prod.mk.injEq] at H
  obtain ⟨rfl, rfl, rfl, rfl, rfl, rfl⟩ := H
  go_enter Try.func13, Try.ntmps13
  try go_wp2_with (first | ((with_reducible refine gate_dst (N := 2) rfl ?_); refine box_event ?hg (N := 2) ?hd (cs := #[.slice A0_0 l0_0.length c0_0, .slice A0_1 l0_1.length c0_1]) (t := 28) ?hr ?_; (case hd => rfl); (case hg => rfl); (case hr => first | (go_simp; done) | (go_simp; rfl)); intro gb235 hg w11 hbox hb; have n0_ := Aside0.mk (below_step (fB0) hb); have n1_ := Aside0.mk (hbox); have n2_ := Aside0.mk ((by rw [hg]; exact (below_size (fB0)) : w.heap.size ≤ gb235)); have n3_ := Aside0.mk ((by rw [hg]; exact (below_size (fB0)) : w.heap.size ≤ gb235)); clear HB; have HB := n0_; have BK235 := n1_; have GW235 := n2_; have GE235 := n3_; clear n0_ n1_ n2_ n3_; clear hb hbox hg) | ((with_reducible refine gate_dst (N := 3) rfl ?_); refine box_event ?hg (N := 3) ?hd (cs := #[.string a1_0, .string a1_1]) (t := 34) ?hr ?_; (case hd => rfl); (case hg => rfl); (case hr => first | (go_simp; done) | (go_simp; rfl)); intro gb236 hg w12 hbox hb; have n0_ := Aside0.mk (blk_below (g := gb235) (o := .cells #[.slice A0_0 l0_0.length c0_0, .slice A0_1 l0_1.length c0_1] 28 (0, 0)) (fA1 BK235) hb); have n1_ := Aside0.mk (below_step (fB1 GE235) hb); have n2_ := Aside0.mk (hbox); have n3_ := Aside0.mk ((by rw [hg]; exact (below_size (fB1 GE235)) : w.heap.size ≤ gb236)); have n4_ := Aside0.mk ((by rw [hg]; exact (below_size (fB1 GE235)) : w.heap.size ≤ gb236)); have n5_ := Aside0.mk ((by rw [hg]; exact Nat.ne_of_lt (blk_lt (g := gb235) (o := .cells #[.slice A0_0 l0_0.length c0_0, .slice A0_1 l0_1.length c0_1] 28 (0, 0)) (fA1 BK235)) : gb235 ≠ gb236)); have n6_ := Aside0.mk ((by rw [hg]; exact Nat.ne_of_gt (blk_lt (g := gb235) (o := .cells #[.slice A0_0 l0_0.length c0_0, .slice A0_1 l0_1.length c0_1] 28 (0, 0)) (fA1 BK235)) : gb236 ≠ gb235)); clear BK235; clear HB; have BK235 := n0_; have HB := n1_; have BK236 := n2_; have GW236 := n3_; have GE236 := n4_; have NB235_236 := n5_; have NB236_235 := n6_; clear n0_ n1_ n2_ n3_ n4_ n5_ n6_; clear hb hbox hg) | ((with_reducible refine gate_dst (N := 4) rfl ?_); refine box_event ?hg (N := 4) ?hd (cs := #[.int .i64 0, .int .i64 0, .int .i64 0, .int .i64 0, .int .i64 0, .int .i64 0]) (t := 35) ?hr ?_; (case hd => rfl); (case hg => rfl); (case hr => first | (go_simp; done) | (go_simp; rfl)); intro gb237 hg w13 hbox hb; have n0_ := Aside0.mk (blk_below (g := gb235) (o := .cells #[.slice A0_0 l0_0.length c0_0, .slice A0_1 l0_1.length c0_1] 28 (0, 0)) (fA1 BK235) hb); have n1_ := Aside0.mk (blk_below (g := gb236) (o := .cells #[.string a1_0, .string a1_1] 34 (0, 0)) (fA1 BK236) hb); have n2_ := Aside0.mk (below_step (fB2 GE235 GE236) hb); have n3_ := Aside0.mk (hbox); have n4_ := Aside0.mk ((by rw [hg]; exact (below_size (fB2 GE235 GE236)) : w.heap.size ≤ gb237)); have n5_ := Aside0.mk ((by rw [hg]; exact (below_size (fB2 GE235 GE236)) : w.heap.size ≤ gb237)); have n6_ := Aside0.mk ((by rw [hg]; exact Nat.ne_of_lt (blk_lt (g := gb235) (o := .cells #[.slice A0_0 l0_0.length c0_0, .slice A0_1 l0_1.length c0_1] 28 (0, 0)) (fA1 BK235)) : gb235 ≠ gb237)); have n7_ := Aside0.mk ((by rw [hg]; exact Nat.ne_of_gt (blk_lt (g := gb235) (o := .cells #[.slice A0_0 l0_0.length c0_0, .slice A0_1 l0_1.length c0_1] 28 (0, 0)) (fA1 BK235)) : gb237 ≠ gb235)); have n8_ := Aside0.mk ((by rw [hg]; exact Nat.ne_of_lt (blk_lt (g := gb236) (o := .cells #[.string a1_0, .string a1_1] 34 (0, 0)) (fA1 BK236)) : gb236 ≠ gb237)); have n9_ := Aside0.mk ((by rw [hg]; exact Nat.ne_of_gt (blk_lt (g := gb236) (o := .cells #[.string a1_0, .string a1_1] 34 (0, 0)) (fA1 BK236)) : gb237 ≠ gb236)); clear BK235; clear BK236; clear HB; have BK235 := n0_; have BK236 := n1_; have HB := n2_; have BK237 := n3_; have GW237 := n4_; have GE237 := n5_; have NB235_237 := n6_; have NB237_235 := n7_; have NB236_237 := n8_; have NB237_236 := n9_; clear n0_ n1_ n2_ n3_ n4_ n5_ n6_ n7_ n8_ n9_; clear hb hbox hg; have hnb14 := NB235_236.out; have hnc14 := NB236_235.out; have hnb15 := NB235_237.out; have hnc15 := NB237_235.out; have hcz16_0 : w13.cell? ⟨gb235, 0, none⟩ = some (.slice A0_0 l0_0.length c0_0) := (blk_cell BK235.out 0).trans rfl; have hcz16_1 : w13.cell? ⟨gb235, 1, none⟩ = some (.slice A0_1 l0_1.length c0_1) := (blk_cell BK235.out 1).trans rfl; have hfz16_0 := blk_frozen BK235.out 0; have hfz16_1 := blk_frozen BK235.out 1; have hnb17 := NB236_237.out; have hnc17 := NB237_236.out; have hcz18_0 : w13.cell? ⟨gb236, 0, none⟩ = some (.string a1_0) := (blk_cell BK236.out 0).trans rfl; have hcz18_1 : w13.cell? ⟨gb236, 1, none⟩ = some (.string a1_1) := (blk_cell BK236.out 1).trans rfl; have hfz18_0 := blk_frozen BK236.out 0; have hfz18_1 := blk_frozen BK236.out 1) | ((with_reducible refine gate_callee (f := 29) rfl ?_); refine goesL_ (some 15) rfl rfl Try.func29 (by kernel_rfl) rfl #[.agg #[.slice A0_0 l0_0.length c0_0, .slice A0_1 l0_1.length c0_1], .string a1_0] rfl (by (try simp only [List.map_toArray, List.map_cons, List.map_nil]); first | done | rfl | (simp only [List.length_drop, List.length_take]; rfl) | (simp only [*]; rfl)) ?_; (with_reducible refine (selecttab_Row.calls k _ _ l0_0 _ _ l0_1 a1_0 t238 t239 _ ?side1 ?side2 ?side3 ?side4 A3.out).mono ?_); (case side1 => repeat (first | exact (Kd.C_below HR0_0.out HB.out) | (with_reducible refine Kd.C_alloc ?_ _) | (with_reducible refine Kd.C_drewN ?_ _) | (with_reducible refine Kd.C_drew ?_))); (case side2 => exact HC0_0.out); (case side3 => repeat (first | exact (Kd.C_below HR0_1.out HB.out) | (with_reducible refine Kd.C_alloc ?_ _) | (with_reducible refine Kd.C_drewN ?_ _) | (with_reducible refine Kd.C_drew ?_))); (case side4 => exact HC0_1.out); rintro e w19 ⟨rfl, hb⟩; refine ⟨_, rfl, ?_⟩; have n0_ := Aside0.mk (blk_below (g := gb235) (o := .cells #[.slice A0_0 l0_0.length c0_0, .slice A0_1 l0_1.length c0_1] 28 (0, 0)) (fA1 BK235) hb); have n1_ := Aside0.mk (blk_below (g := gb236) (o := .cells #[.string a1_0, .string a1_1] 34 (0, 0)) (fA1 BK236) hb); have n2_ := Aside0.mk (blk_below (g := gb237) (o := .cells #[.int .i64 0, .int .i64 0, .int .i64 0, .int .i64 0, .int .i64 0, .int .i64 0] 35 (0, 0)) (fA1 BK237) hb); have n3_ := Aside0.mk (below_step (fB3 GE235 GE236 GE237) hb); clear BK235; clear BK236; clear BK237; clear HB; have BK235 := n0_; have BK236 := n1_; have BK237 := n2_; have HB := n3_; clear n0_ n1_ n2_ n3_; (try clear hb); (try clear hb2); (try clear hk); (try clear hi); have hcz20_0 : w19.cell? ⟨gb235, 0, none⟩ = some (.slice A0_0 l0_0.length c0_0) := (blk_cell BK235.out 0).trans rfl; have hcz20_1 : w19.cell? ⟨gb235, 1, none⟩ = some (.slice A0_1 l0_1.length c0_1) := (blk_cell BK235.out 1).trans rfl; have hfz20_0 := blk_frozen BK235.out 0; have hfz20_1 := blk_frozen BK235.out 1; have hcz21_0 : w19.cell? ⟨gb236, 0, none⟩ = some (.string a1_0) := (blk_cell BK236.out 0).trans rfl; have hcz21_1 : w19.cell? ⟨gb236, 1, none⟩ = some (.string a1_1) := (blk_cell BK236.out 1).trans rfl; have hfz21_0 := blk_frozen BK236.out 0; have hfz21_1 := blk_frozen BK236.out 1) | ((with_reducible refine gate_callee (f := 29) rfl ?_); refine goesL_ (some 22) rfl rfl Try.func29 (by kernel_rfl) rfl #[.agg #[.slice A0_0 l0_0.length c0_0, .slice A0_1 l0_1.length c0_1], .string a1_1] rfl (by (try simp only [List.map_toArray, List.map_cons, List.map_nil]); first | done | rfl | (simp only [List.length_drop, List.length_take]; rfl) | (simp only [*]; rfl)) ?_; (with_reducible refine (selecttab_Row.calls k _ _ l0_0 _ _ l0_1 a1_1 t240 t241 _ ?side1 ?side2 ?side3 ?side4 A4.out).mono ?_); (case side1 => repeat (first | exact (Kd.C_below HR0_0.out HB.out) | (with_reducible refine Kd.C_alloc ?_ _) | (with_reducible refine Kd.C_drewN ?_ _) | (with_reducible refine Kd.C_drew ?_))); (case side2 => exact HC0_0.out); (case side3 => repeat (first | exact (Kd.C_below HR0_1.out HB.out) | (with_reducible refine Kd.C_alloc ?_ _) | (with_reducible refine Kd.C_drewN ?_ _) | (with_reducible refine Kd.C_drew ?_))); (case side4 => exact HC0_1.out); rintro e w22 ⟨rfl, hb⟩; refine ⟨_, rfl, ?_⟩; have n0_ := Aside0.mk (blk_below (g := gb235) (o := .cells #[.slice A0_0 l0_0.length c0_0, .slice A0_1 l0_1.length c0_1] 28 (0, 0)) (fA1 BK235) hb); have n1_ := Aside0.mk (blk_below (g := gb236) (o := .cells #[.string a1_0, .string a1_1] 34 (0, 0)) (fA1 BK236) hb); have n2_ := Aside0.mk (blk_below (g := gb237) (o := .cells #[.int .i64 0, .int .i64 0, .int .i64 0, .int .i64 0, .int .i64 0, .int .i64 0] 35 (0, 0)) (fA1 BK237) hb); have n3_ := Aside0.mk (below_step (fB3 GE235 GE236 GE237) hb); clear BK235; clear BK236; clear BK237; clear HB; have BK235 := n0_; have BK236 := n1_; have BK237 := n2_; have HB := n3_; clear n0_ n1_ n2_ n3_; (try clear hb); (try clear hb2); (try clear hk); (try clear hi); have hcz23_0 : w22.cell? ⟨gb236, 0, none⟩ = some (.string a1_0) := (blk_cell BK236.out 0).trans rfl; have hcz23_1 : w22.cell? ⟨gb236, 1, none⟩ = some (.string a1_1) := (blk_cell BK236.out 1).trans rfl; have hfz23_0 := blk_frozen BK236.out 0; have hfz23_1 := blk_frozen BK236.out 1) | ((with_reducible refine gate_callee (f := 30) rfl ?_); refine goesL_ (some 27) rfl rfl Try.func30 (by kernel_rfl) rfl #[.string a1_0] rfl (by (try simp only [List.map_toArray, List.map_cons, List.map_nil]); first | done | rfl | (simp only [List.length_drop, List.length_take]; rfl) | (simp only [*]; rfl)) ?_; (with_reducible refine (selecttab_Scope.calls k a1_0 t242 _ A5.out).mono ?_); rintro e w24 ⟨rfl, hb⟩; refine ⟨_, rfl, ?_⟩; have n0_ := Aside0.mk (blk_below (g := gb235) (o := .cells #[.slice A0_0 l0_0.length c0_0, .slice A0_1 l0_1.length c0_1] 28 (0, 0)) (fA1 BK235) hb); have n1_ := Aside0.mk (blk_below (g := gb236) (o := .cells #[.string a1_0, .string a1_1] 34 (0, 0)) (fA1 BK236) hb); have n2_ := Aside0.mk (blk_below (g := gb237) (o := .cells #[.int .i64 0, .int .i64 0, .int .i64 0, .int .i64 0, .int .i64 0, .int .i64 0] 35 (0, 0)) (fA1 BK237) hb); have n3_ := Aside0.mk (below_step (fB3 GE235 GE236 GE237) hb); clear BK235; clear BK236; clear BK237; clear HB; have BK235 := n0_; have BK236 := n1_; have BK237 := n2_; have HB := n3_; clear n0_ n1_ n2_ n3_; (try clear hb); (try clear hb2); (try clear hk); (try clear hi); have hcz25_0 : w24.cell? ⟨gb236, 0, none⟩ = some (.string a1_0) := (blk_cell BK236.out 0).trans rfl; have hcz25_1 : w24.cell? ⟨gb236, 1, none⟩ = some (.string a1_1) := (blk_cell BK236.out 1).trans rfl; have hfz25_0 := blk_frozen BK236.out 0; have hfz25_1 := blk_frozen BK236.out 1))
  have n0_ := Aside0.mk (blk_drew BK235.out)
  have n1_ := Aside0.mk (blk_drew BK236.out)
  have n2_ := Aside0.mk (blk_drew BK237.out)
  have n3_ := Aside0.mk (below_drew1 HB.out)
  clear BK235
  clear BK236
  clear BK237
  clear HB
  have BK235 := n0_
  have BK236 := n1_
  have BK237 := n2_
  have HB := n3_
  clear n0_ n1_ n2_ n3_
  refine start_ (n := 29) (S := fun w' => w'.cell? ⟨gb236, 0, none⟩ = some (.string a1_0) ∧ w'.cell? ⟨gb236, 1, none⟩ = some (.string a1_1)) (ds := []) #[false, false, false, false, false, false, false, false, false, false, false, false, false, false, false, false, false, false, false, false, false, false, false, false, false, false, false, false, false] (by kernel_rfl) rfl rfl ⟨(blk_cell BK236.out 0).trans rfl, (blk_cell BK236.out 1).trans rfl⟩ (fun hHeld => ?_); refine with_tabW order_Keys.tab5 order_Keys.bits5 (fun HT_ HW_ => ?_)
  generalize w24.drew = w26 at BK235 BK236 BK237 HB hHeld ⊢
  refine pu_ 0 31 (h := ?_)
  refine pu_ 2 33 (h := ?_)
  refine pu_ 11 42 (h := ?_)
  refine pu_ 18 49 (h := ?_)
  refine pu_ 19 50 (h := ?_)
  refine pu_ 20 51 (h := ?_)
  refine pu_ 21 52 (h := ?_)
  refine pu_ 23 54 (h := ?_)
  refine tk_ 22 53 (h := ?_)
  refine tk_ 24 55 (h := ?_)
  refine one_ (i := 1) (N := some 32) #[true, true, true, false, false, false, false, false, false, false, false, true, false, false, false, false, false, false, true, true, true, true, true, true, true, false, false, false, false] rfl rfl (one_of HT_.out (by kernel_rfl)) (by decide) (fun K hK => ?_)
  refine goes_ Try.func31 (by kernel_rfl) rfl #[.bool (a1_1.toList == ([] : List UInt8))] (by rfl) rfl rfl (by (try simp only [List.map_toArray, List.map_cons, List.map_nil]); first | done | rfl | (simp only [List.length_drop, List.length_take]; rfl) | (simp only [*]; rfl)) ?_
  with_reducible refine (order_worse.calls (a1_1.toList == ([] : List UInt8)) t243 _ A6.out).mono ?_
  rintro e w' ⟨rfl, ⟨nd, rfl⟩⟩
  refine ⟨_, rfl, ?_⟩
  refine hK.out _ _ ⟨(blk_cell BK236.out 0).trans rfl, (blk_cell BK236.out 1).trans rfl⟩ (fun hHeld => ?_)
  clear hK K
  refine norm_ (a' := ?_) ?_ ?_
  rotate_left
  ·show Act.put _ (some 32) _ = _
   simp only [Act.put, List.setIfInBounds_toArray, List.set_cons_zero, List.set_cons_succ, i64_w, i32_w]
   rfl
  refine pu_ 3 34 (h := ?_)
  refine pv_ 4 35 (h := ?_)
  refine pv_ 5 36 (h := ?_)
  refine pv_ 6 37 (h := ?_)
  refine pv_ 7 38 (h := ?_)
  refine pv_ 8 39 (h := ?_)
  refine pu_ 9 40 (h := ?_)
  refine one_ (i := 10) (N := some 41) #[true, true, true, true, true, true, true, true, true, true, true, true, false, false, false, false, false, false, true, true, true, true, true, true, true, false, false, false, false] rfl rfl (one_of HT_.out (by kernel_rfl)) (by decide) (fun K hK => ?_)
  refine goes_ Try.func31 (by kernel_rfl) rfl #[.bool true] (by rfl) rfl rfl (by (try simp only [List.map_toArray, List.map_cons, List.map_nil]); first | done | rfl | (simp only [List.length_drop, List.length_take]; rfl) | (simp only [*]; rfl)) ?_
  with_reducible refine (order_worse.calls true t244 _ A8.out).mono ?_
  rintro e w' ⟨rfl, ⟨nd, rfl⟩⟩
  refine ⟨_, rfl, ?_⟩
  refine hK.out _ _ ⟨(blk_cell BK236.out 0).trans rfl, (blk_cell BK236.out 1).trans rfl⟩ (fun hHeld => ?_)
  clear hK K
  refine norm_ (a' := ?_) ?_ ?_
  rotate_left
  ·show Act.put _ (some 41) _ = _
   simp only [Act.put, List.setIfInBounds_toArray, List.set_cons_zero, List.set_cons_succ, i64_w, i32_w]
   rfl
  refine pu_ 12 43 (h := ?_)
  refine pv_ 13 44 (h := ?_)
  refine pv_ 14 45 (h := ?_)
  refine pv_ 15 46 (h := ?_)
  refine pu_ 16 47 (h := ?_)
  refine one_ (i := 17) (N := some 48) #[true, true, true, true, true, true, true, true, true, true, true, true, true, true, true, true, true, true, true, true, true, true, true, true, true, false, false, false, false] rfl rfl (one_of HT_.out (by kernel_rfl)) (by decide) (fun K hK => ?_)
  refine goes_ Try.func31 (by kernel_rfl) rfl #[.bool true] (by rfl) rfl rfl (by (try simp only [List.map_toArray, List.map_cons, List.map_nil]); first | done | rfl | (simp only [List.length_drop, List.length_take]; rfl) | (simp only [*]; rfl)) ?_
  with_reducible refine (order_worse.calls true t245 _ A9.out).mono ?_
  rintro e w' ⟨rfl, ⟨nd, rfl⟩⟩
  refine ⟨_, rfl, ?_⟩
  refine hK.out _ _ ⟨(blk_cell BK236.out 0).trans rfl, (blk_cell BK236.out 1).trans rfl⟩ (fun hHeld => ?_)
  clear hK K
  refine norm_ (a' := ?_) ?_ ?_
  rotate_left
  ·show Act.put _ (some 48) _ = _
   simp only [Act.put, List.setIfInBounds_toArray, List.set_cons_zero, List.set_cons_succ, i64_w, i32_w]
   rfl
  refine one_ (i := 25) (N := some 56) #[true, true, true, true, true, true, true, true, true, true, true, true, true, true, true, true, true, true, true, true, true, true, true, true, true, true, false, false, false] rfl rfl (one_of HT_.out (by kernel_rfl)) (by decide) (fun K hK => ?_)
  refine goes_ Try.func32 (by kernel_rfl) rfl #[.string a1_0, .string a1_1] (by rfl) rfl rfl (by (try simp only [List.map_toArray, List.map_cons, List.map_nil]); first | done | rfl | (simp only [List.length_drop, List.length_take]; rfl) | (simp only [*]; rfl)) ?_
  with_reducible refine (addr_Common.calls k a1_0 a1_1 t246 _ A10.out).mono ?_
  rintro e w' ⟨rfl, ⟨nd, rfl⟩⟩
  refine ⟨_, rfl, ?_⟩
  refine hK.out _ _ ⟨(blk_cell BK236.out 0).trans rfl, (blk_cell BK236.out 1).trans rfl⟩ (fun hHeld => ?_)
  clear hK K
  refine norm_ (a' := ?_) ?_ ?_
  rotate_left
  ·show Act.put _ (some 56) _ = _
   simp only [Act.put, List.setIfInBounds_toArray, List.set_cons_zero, List.set_cons_succ, i64_w, i32_w]
   rfl
  refine pu_ 26 57 (h := ?_)
  refine pu_ 27 58 (h := ?_)
  refine one_ (i := 28) (N := none) #[true, true, true, true, true, true, true, true, true, true, true, true, true, true, true, true, true, true, true, true, true, true, true, true, true, true, true, true, true] rfl rfl (one_of HT_.out (by kernel_rfl)) (by decide) (fun K hK => ?_)
  have hs27 : w26.cell? ⟨gb237, 0, none⟩ = some (.int .i64 0) := (blk_cell BK237.out 0).trans rfl
  have hfs27 := blk_frozen BK237.out 0
  have hns27_0 := NB235_237.out
  have hns27_1 := NB236_237.out
  have hms27_0 := NB237_235.out
  have hms27_1 := NB237_236.out
  have hs28 : w26.cell? ⟨gb237, 1, none⟩ = some (.int .i64 0) := (blk_cell BK237.out 1).trans rfl
  have hfs28 := blk_frozen BK237.out 1
  have hns28_0 := NB235_237.out
  have hns28_1 := NB236_237.out
  have hms28_0 := NB237_235.out
  have hms28_1 := NB237_236.out
  have hs29 : w26.cell? ⟨gb237, 2, none⟩ = some (.int .i64 0) := (blk_cell BK237.out 2).trans rfl
  have hfs29 := blk_frozen BK237.out 2
  have hns29_0 := NB235_237.out
  have hns29_1 := NB236_237.out
  have hms29_0 := NB237_235.out
  have hms29_1 := NB237_236.out
  have hs30 : w26.cell? ⟨gb237, 3, none⟩ = some (.int .i64 0) := (blk_cell BK237.out 3).trans rfl
  have hfs30 := blk_frozen BK237.out 3
  have hns30_0 := NB235_237.out
  have hns30_1 := NB236_237.out
  have hms30_0 := NB237_235.out
  have hms30_1 := NB237_236.out
  have hs31 : w26.cell? ⟨gb237, 4, none⟩ = some (.int .i64 0) := (blk_cell BK237.out 4).trans rfl
  have hfs31 := blk_frozen BK237.out 4
  have hns31_0 := NB235_237.out
  have hns31_1 := NB236_237.out
  have hms31_0 := NB237_235.out
  have hms31_1 := NB237_236.out
  have hs32 : w26.cell? ⟨gb237, 5, none⟩ = some (.int .i64 0) := (blk_cell BK237.out 5).trans rfl
  have hfs32 := blk_frozen BK237.out 5
  have hns32_0 := NB235_237.out
  have hns32_1 := NB236_237.out
  have hms32_0 := NB237_235.out
  have hms32_1 := NB237_236.out
  refine skip_ (w1 := ?_) (by rfl) rfl ?_ ?_
  rotate_left
  ·go_simp
   rfl
  refine hK.out _ _ ⟨((cell_far (p := ⟨gb237, _, none⟩) NB236_237.out _).trans (((cell_far (p := ⟨gb237, _, none⟩) NB236_237.out _).trans (((cell_far (p := ⟨gb237, _, none⟩) NB236_237.out _).trans (((cell_far (p := ⟨gb237, _, none⟩) NB236_237.out _).trans (((cell_far (p := ⟨gb237, _, none⟩) NB236_237.out _).trans (((cell_far (p := ⟨gb237, _, none⟩) NB236_237.out _).trans (hHeld.1)))))))))))), ((cell_far (p := ⟨gb237, _, none⟩) NB236_237.out _).trans (((cell_far (p := ⟨gb237, _, none⟩) NB236_237.out _).trans (((cell_far (p := ⟨gb237, _, none⟩) NB236_237.out _).trans (((cell_far (p := ⟨gb237, _, none⟩) NB236_237.out _).trans (((cell_far (p := ⟨gb237, _, none⟩) NB236_237.out _).trans (((cell_far (p := ⟨gb237, _, none⟩) NB236_237.out _).trans (hHeld.2))))))))))))⟩ (fun hHeld => ?_)
  clear hK K
  refine done_ (done_of HT_.out (by kernel_rfl)) ?_
  try go_wp2
  refine bodyPost_ret (results_cell_row rfl _ _ gb237 35 #[.int .i64 t243, .int .i64 t244, .int .i64 t245, .int .i64 (wrap64 (-t239)), .int .i64 t242, .int .i64 (wrap64 (-t246))] (0, 0) _ rfl (by (with_reducible repeat (first | refine blk_drewN ?_ _ | refine blk_drew ?_ | refine blk_alloc ?_ _)); refine blk_put (cs := #[.int .i64 t243, .int .i64 t244, .int .i64 t245, .int .i64 (wrap64 (-t239)), .int .i64 t242, .int .i64 0]) ?_ 5 _ rfl; (with_reducible repeat (first | refine blk_drewN ?_ _ | refine blk_drew ?_ | refine blk_alloc ?_ _)); refine blk_put (cs := #[.int .i64 t243, .int .i64 t244, .int .i64 t245, .int .i64 (wrap64 (-t239)), .int .i64 0, .int .i64 0]) ?_ 4 _ rfl; (with_reducible repeat (first | refine blk_drewN ?_ _ | refine blk_drew ?_ | refine blk_alloc ?_ _)); refine blk_put (cs := #[.int .i64 t243, .int .i64 t244, .int .i64 t245, .int .i64 0, .int .i64 0, .int .i64 0]) ?_ 3 _ rfl; (with_reducible repeat (first | refine blk_drewN ?_ _ | refine blk_drew ?_ | refine blk_alloc ?_ _)); refine blk_put (cs := #[.int .i64 t243, .int .i64 t244, .int .i64 0, .int .i64 0, .int .i64 0, .int .i64 0]) ?_ 2 _ rfl; (with_reducible repeat (first | refine blk_drewN ?_ _ | refine blk_drew ?_ | refine blk_alloc ?_ _)); refine blk_put (cs := #[.int .i64 t243, .int .i64 0, .int .i64 0, .int .i64 0, .int .i64 0, .int .i64 0]) ?_ 1 _ rfl; (with_reducible repeat (first | refine blk_drewN ?_ _ | refine blk_drew ?_ | refine blk_alloc ?_ _)); refine blk_put (cs := #[.int .i64 0, .int .i64 0, .int .i64 0, .int .i64 0, .int .i64 0, .int .i64 0]) ?_ 0 _ rfl; (with_reducible repeat (first | refine blk_drewN ?_ _ | refine blk_drew ?_ | refine blk_alloc ?_ _)); exact BK237.out) Try.underlying35 rfl (by kernel_rfl)) rfl ?_
  exact ⟨by first | rfl | (simp [errW_none, errW_some] <;> rfl) | (simp [*, errW_none, errW_some] <;> rfl), (fB3 GE235 GE236 GE237)⟩
 ·rw [if_neg c7] at H
  have c7b0 : (a1_1.toList == ([] : List UInt8)) = false := beq_eq_false_iff_ne.mpr c7
  have c7b1 : (a1_1.toList != ([] : List UInt8)) = true := bne_iff_ne.mpr c7
  replace H := Option.bind_eq_some_iff.mp H
  obtain ⟨t247, A330, H⟩ := H
  have A33 := Aside0.mk A330
  clear A330
  replace H := Option.bind_eq_some_iff.mp H
  obtain ⟨t248, A340, H⟩ := H
  have A34 := Aside0.mk A340
  clear A340
  replace H := Option.bind_eq_some_iff.mp H
  obtain ⟨t249, A350, H⟩ := H
  have A35 := Aside0.mk A350
  clear A350
  replace H := Option.bind_eq_some_iff.mp H
  obtain ⟨t250, A360, H⟩ := H
  have A36 := Aside0.mk A360
  clear A360
  simp only [Option.some.injEq, Prod.mk.injEq] at H
  obtain ⟨rfl, rfl, rfl, rfl, rfl, rfl⟩ := H
  go_enter Try.func13, Try.ntmps13
  try go_wp2_with (first | ((with_reducible refine gate_dst (N := 2) rfl ?_); refine box_event ?hg (N := 2) ?hd (cs := #[.slice A0_0 l0_0.length c0_0, .slice A0_1 l0_1.length c0_1]) (t := 28) ?hr ?_; (case hd => rfl); (case hg => rfl); (case hr => first | (go_simp; done) | (go_simp; rfl)); intro gb235 hg w37 hbox hb; have n0_ := Aside0.mk (below_step (fB0) hb); have n1_ := Aside0.mk (hbox); have n2_ := Aside0.mk ((by rw [hg]; exact (below_size (fB0)) : w.heap.size ≤ gb235)); have n3_ := Aside0.mk ((by rw [hg]; exact (below_size (fB0)) : w.heap.size ≤ gb235)); clear HB; have HB := n0_; have BK235 := n1_; have GW235 := n2_; have GE235 := n3_; clear n0_ n1_ n2_ n3_; clear hb hbox hg) | ((with_reducible refine gate_dst (N := 3) rfl ?_); refine box_event ?hg (N := 3) ?hd (cs := #[.string a1_0, .string a1_1]) (t := 34) ?hr ?_; (case hd => rfl); (case hg => rfl); (case hr => first | (go_simp; done) | (go_simp; rfl)); intro gb236 hg w38 hbox hb; have n0_ := Aside0.mk (blk_below (g := gb235) (o := .cells #[.slice A0_0 l0_0.length c0_0, .slice A0_1 l0_1.length c0_1] 28 (0, 0)) (fA1 BK235) hb); have n1_ := Aside0.mk (below_step (fB1 GE235) hb); have n2_ := Aside0.mk (hbox); have n3_ := Aside0.mk ((by rw [hg]; exact (below_size (fB1 GE235)) : w.heap.size ≤ gb236)); have n4_ := Aside0.mk ((by rw [hg]; exact (below_size (fB1 GE235)) : w.heap.size ≤ gb236)); have n5_ := Aside0.mk ((by rw [hg]; exact Nat.ne_of_lt (blk_lt (g := gb235) (o := .cells #[.slice A0_0 l0_0.length c0_0, .slice A0_1 l0_1.length c0_1] 28 (0, 0)) (fA1 BK235)) : gb235 ≠ gb236)); have n6_ := Aside0.mk ((by rw [hg]; exact Nat.ne_of_gt (blk_lt (g := gb235) (o := .cells #[.slice A0_0 l0_0.length c0_0, .slice A0_1 l0_1.length c0_1] 28 (0, 0)) (fA1 BK235)) : gb236 ≠ gb235)); clear BK235; clear HB; have BK235 := n0_; have HB := n1_; have BK236 := n2_; have GW236 := n3_; have GE236 := n4_; have NB235_236 := n5_; have NB236_235 := n6_; clear n0_ n1_ n2_ n3_ n4_ n5_ n6_; clear hb hbox hg) | ((with_reducible refine gate_dst (N := 4) rfl ?_); refine box_event ?hg (N := 4) ?hd (cs := #[.int .i64 0, .int .i64 0, .int .i64 0, .int .i64 0, .int .i64 0, .int .i64 0]) (t := 35) ?hr ?_; (case hd => rfl); (case hg => rfl); (case hr => first | (go_simp; done) | (go_simp; rfl)); intro gb237 hg w39 hbox hb; have n0_ := Aside0.mk (blk_below (g := gb235) (o := .cells #[.slice A0_0 l0_0.length c0_0, .slice A0_1 l0_1.length c0_1] 28 (0, 0)) (fA1 BK235) hb); have n1_ := Aside0.mk (blk_below (g := gb236) (o := .cells #[.string a1_0, .string a1_1] 34 (0, 0)) (fA1 BK236) hb); have n2_ := Aside0.mk (below_step (fB2 GE235 GE236) hb); have n3_ := Aside0.mk (hbox); have n4_ := Aside0.mk ((by rw [hg]; exact (below_size (fB2 GE235 GE236)) : w.heap.size ≤ gb237)); have n5_ := Aside0.mk ((by rw [hg]; exact (below_size (fB2 GE235 GE236)) : w.heap.size ≤ gb237)); have n6_ := Aside0.mk ((by rw [hg]; exact Nat.ne_of_lt (blk_lt (g := gb235) (o := .cells #[.slice A0_0 l0_0.length c0_0, .slice A0_1 l0_1.length c0_1] 28 (0, 0)) (fA1 BK235)) : gb235 ≠ gb237)); have n7_ := Aside0.mk ((by rw [hg]; exact Nat.ne_of_gt (blk_lt (g := gb235) (o := .cells #[.slice A0_0 l0_0.length c0_0, .slice A0_1 l0_1.length c0_1] 28 (0, 0)) (fA1 BK235)) : gb237 ≠ gb235)); have n8_ := Aside0.mk ((by rw [hg]; exact Nat.ne_of_lt (blk_lt (g := gb236) (o := .cells #[.string a1_0, .string a1_1] 34 (0, 0)) (fA1 BK236)) : gb236 ≠ gb237)); have n9_ := Aside0.mk ((by rw [hg]; exact Nat.ne_of_gt (blk_lt (g := gb236) (o := .cells #[.string a1_0, .string a1_1] 34 (0, 0)) (fA1 BK236)) : gb237 ≠ gb236)); clear BK235; clear BK236; clear HB; have BK235 := n0_; have BK236 := n1_; have HB := n2_; have BK237 := n3_; have GW237 := n4_; have GE237 := n5_; have NB235_237 := n6_; have NB237_235 := n7_; have NB236_237 := n8_; have NB237_236 := n9_; clear n0_ n1_ n2_ n3_ n4_ n5_ n6_ n7_ n8_ n9_; clear hb hbox hg; have hnb40 := NB235_236.out; have hnc40 := NB236_235.out; have hnb41 := NB235_237.out; have hnc41 := NB237_235.out; have hcz42_0 : w39.cell? ⟨gb235, 0, none⟩ = some (.slice A0_0 l0_0.length c0_0) := (blk_cell BK235.out 0).trans rfl; have hcz42_1 : w39.cell? ⟨gb235, 1, none⟩ = some (.slice A0_1 l0_1.length c0_1) := (blk_cell BK235.out 1).trans rfl; have hfz42_0 := blk_frozen BK235.out 0; have hfz42_1 := blk_frozen BK235.out 1; have hnb43 := NB236_237.out; have hnc43 := NB237_236.out; have hcz44_0 : w39.cell? ⟨gb236, 0, none⟩ = some (.string a1_0) := (blk_cell BK236.out 0).trans rfl; have hcz44_1 : w39.cell? ⟨gb236, 1, none⟩ = some (.string a1_1) := (blk_cell BK236.out 1).trans rfl; have hfz44_0 := blk_frozen BK236.out 0; have hfz44_1 := blk_frozen BK236.out 1) | ((with_reducible refine gate_callee (f := 29) rfl ?_); refine goesL_ (some 15) rfl rfl Try.func29 (by kernel_rfl) rfl #[.agg #[.slice A0_0 l0_0.length c0_0, .slice A0_1 l0_1.length c0_1], .string a1_0] rfl (by (try simp only [List.map_toArray, List.map_cons, List.map_nil]); first | done | rfl | (simp only [List.length_drop, List.length_take]; rfl) | (simp only [*]; rfl)) ?_; (with_reducible refine (selecttab_Row.calls k _ _ l0_0 _ _ l0_1 a1_0 t238 t239 _ ?side1 ?side2 ?side3 ?side4 A3.out).mono ?_); (case side1 => repeat (first | exact (Kd.C_below HR0_0.out HB.out) | (with_reducible refine Kd.C_alloc ?_ _) | (with_reducible refine Kd.C_drewN ?_ _) | (with_reducible refine Kd.C_drew ?_))); (case side2 => exact HC0_0.out); (case side3 => repeat (first | exact (Kd.C_below HR0_1.out HB.out) | (with_reducible refine Kd.C_alloc ?_ _) | (with_reducible refine Kd.C_drewN ?_ _) | (with_reducible refine Kd.C_drew ?_))); (case side4 => exact HC0_1.out); rintro e w45 ⟨rfl, hb⟩; refine ⟨_, rfl, ?_⟩; have n0_ := Aside0.mk (blk_below (g := gb235) (o := .cells #[.slice A0_0 l0_0.length c0_0, .slice A0_1 l0_1.length c0_1] 28 (0, 0)) (fA1 BK235) hb); have n1_ := Aside0.mk (blk_below (g := gb236) (o := .cells #[.string a1_0, .string a1_1] 34 (0, 0)) (fA1 BK236) hb); have n2_ := Aside0.mk (blk_below (g := gb237) (o := .cells #[.int .i64 0, .int .i64 0, .int .i64 0, .int .i64 0, .int .i64 0, .int .i64 0] 35 (0, 0)) (fA1 BK237) hb); have n3_ := Aside0.mk (below_step (fB3 GE235 GE236 GE237) hb); clear BK235; clear BK236; clear BK237; clear HB; have BK235 := n0_; have BK236 := n1_; have BK237 := n2_; have HB := n3_; clear n0_ n1_ n2_ n3_; (try clear hb); (try clear hb2); (try clear hk); (try clear hi); have hcz46_0 : w45.cell? ⟨gb235, 0, none⟩ = some (.slice A0_0 l0_0.length c0_0) := (blk_cell BK235.out 0).trans rfl; have hcz46_1 : w45.cell? ⟨gb235, 1, none⟩ = some (.slice A0_1 l0_1.length c0_1) := (blk_cell BK235.out 1).trans rfl; have hfz46_0 := blk_frozen BK235.out 0; have hfz46_1 := blk_frozen BK235.out 1; have hcz47_0 : w45.cell? ⟨gb236, 0, none⟩ = some (.string a1_0) := (blk_cell BK236.out 0).trans rfl; have hcz47_1 : w45.cell? ⟨gb236, 1, none⟩ = some (.string a1_1) := (blk_cell BK236.out 1).trans rfl; have hfz47_0 := blk_frozen BK236.out 0; have hfz47_1 := blk_frozen BK236.out 1) | ((with_reducible refine gate_callee (f := 29) rfl ?_); refine goesL_ (some 22) rfl rfl Try.func29 (by kernel_rfl) rfl #[.agg #[.slice A0_0 l0_0.length c0_0, .slice A0_1 l0_1.length c0_1], .string a1_1] rfl (by (try simp only [List.map_toArray, List.map_cons, List.map_nil]); first | done | rfl | (simp only [List.length_drop, List.length_take]; rfl) | (simp only [*]; rfl)) ?_; (with_reducible refine (selecttab_Row.calls k _ _ l0_0 _ _ l0_1 a1_1 t240 t241 _ ?side1 ?side2 ?side3 ?side4 A4.out).mono ?_); (case side1 => repeat (first | exact (Kd.C_below HR0_0.out HB.out) | (with_reducible refine Kd.C_alloc ?_ _) | (with_reducible refine Kd.C_drewN ?_ _) | (with_reducible refine Kd.C_drew ?_))); (case side2 => exact HC0_0.out); (case side3 => repeat (first | exact (Kd.C_below HR0_1.out HB.out) | (with_reducible refine Kd.C_alloc ?_ _) | (with_reducible refine Kd.C_drewN ?_ _) | (with_reducible refine Kd.C_drew ?_))); (case side4 => exact HC0_1.out); rintro e w48 ⟨rfl, hb⟩; refine ⟨_, rfl, ?_⟩; have n0_ := Aside0.mk (blk_below (g := gb235) (o := .cells #[.slice A0_0 l0_0.length c0_0, .slice A0_1 l0_1.length c0_1] 28 (0, 0)) (fA1 BK235) hb); have n1_ := Aside0.mk (blk_below (g := gb236) (o := .cells #[.string a1_0, .string a1_1] 34 (0, 0)) (fA1 BK236) hb); have n2_ := Aside0.mk (blk_below (g := gb237) (o := .cells #[.int .i64 0, .int .i64 0, .int .i64 0, .int .i64 0, .int .i64 0, .int .i64 0] 35 (0, 0)) (fA1 BK237) hb); have n3_ := Aside0.mk (below_step (fB3 GE235 GE236 GE237) hb); clear BK235; clear BK236; clear BK237; clear HB; have BK235 := n0_; have BK236 := n1_; have BK237 := n2_; have HB := n3_; clear n0_ n1_ n2_ n3_; (try clear hb); (try clear hb2); (try clear hk); (try clear hi); have hcz49_0 : w48.cell? ⟨gb236, 0, none⟩ = some (.string a1_0) := (blk_cell BK236.out 0).trans rfl; have hcz49_1 : w48.cell? ⟨gb236, 1, none⟩ = some (.string a1_1) := (blk_cell BK236.out 1).trans rfl; have hfz49_0 := blk_frozen BK236.out 0; have hfz49_1 := blk_frozen BK236.out 1) | ((with_reducible refine gate_callee (f := 30) rfl ?_); refine goesL_ (some 27) rfl rfl Try.func30 (by kernel_rfl) rfl #[.string a1_0] rfl (by (try simp only [List.map_toArray, List.map_cons, List.map_nil]); first | done | rfl | (simp only [List.length_drop, List.length_take]; rfl) | (simp only [*]; rfl)) ?_; (with_reducible refine (selecttab_Scope.calls k a1_0 t242 _ A5.out).mono ?_); rintro e w50 ⟨rfl, hb⟩; refine ⟨_, rfl, ?_⟩; have n0_ := Aside0.mk (blk_below (g := gb235) (o := .cells #[.slice A0_0 l0_0.length c0_0, .slice A0_1 l0_1.length c0_1] 28 (0, 0)) (fA1 BK235) hb); have n1_ := Aside0.mk (blk_below (g := gb236) (o := .cells #[.string a1_0, .string a1_1] 34 (0, 0)) (fA1 BK236) hb); have n2_ := Aside0.mk (blk_below (g := gb237) (o := .cells #[.int .i64 0, .int .i64 0, .int .i64 0, .int .i64 0, .int .i64 0, .int .i64 0] 35 (0, 0)) (fA1 BK237) hb); have n3_ := Aside0.mk (below_step (fB3 GE235 GE236 GE237) hb); clear BK235; clear BK236; clear BK237; clear HB; have BK235 := n0_; have BK236 := n1_; have BK237 := n2_; have HB := n3_; clear n0_ n1_ n2_ n3_; (try clear hb); (try clear hb2); (try clear hk); (try clear hi); have hcz51_0 : w50.cell? ⟨gb236, 0, none⟩ = some (.string a1_0) := (blk_cell BK236.out 0).trans rfl; have hcz51_1 : w50.cell? ⟨gb236, 1, none⟩ = some (.string a1_1) := (blk_cell BK236.out 1).trans rfl; have hfz51_0 := blk_frozen BK236.out 0; have hfz51_1 := blk_frozen BK236.out 1))
  have n0_ := Aside0.mk (blk_drew BK235.out)
  have n1_ := Aside0.mk (blk_drew BK236.out)
  have n2_ := Aside0.mk (blk_drew BK237.out)
  have n3_ := Aside0.mk (below_drew1 HB.out)
  clear BK235
  clear BK236
  clear BK237
  clear HB
  have BK235 := n0_
  have BK236 := n1_
  have BK237 := n2_
  have HB := n3_
  clear n0_ n1_ n2_ n3_
  refine start_ (n := 29) (S := fun w' => w'.cell? ⟨gb236, 0, none⟩ = some (.string a1_0) ∧ w'.cell? ⟨gb236, 1, none⟩ = some (.string a1_1)) (ds := []) #[false, false, false, false, false, false, false, false, false, false, false, false, false, false, false, false, false, false, false, false, false, false, false, false, false, false, false, false, false] (by kernel_rfl) rfl rfl ⟨(blk_cell BK236.out 0).trans rfl, (blk_cell BK236.out 1).trans rfl⟩ (fun hHeld => ?_); refine with_tabW order_Keys.tab5 order_Keys.bits5 (fun HT_ HW_ => ?_)
  generalize w50.drew = w52 at BK235 BK236 BK237 HB hHeld ⊢
  refine pu_ 0 31 (h := ?_)
  refine pu_ 2 33 (h := ?_)
  refine pu_ 11 42 (h := ?_)
  refine pu_ 18 49 (h := ?_)
  refine pu_ 19 50 (h := ?_)
  refine pu_ 20 51 (h := ?_)
  refine pu_ 21 52 (h := ?_)
  refine pu_ 23 54 (h := ?_)
  refine tk_ 22 53 (h := ?_)
  refine tk_ 24 55 (h := ?_)
  refine one_ (i := 1) (N := some 32) #[true, true, true, false, false, false, false, false, false, false, false, true, false, false, false, false, false, false, true, true, true, true, true, true, true, false, false, false, false] rfl rfl (one_of HT_.out (by kernel_rfl)) (by decide) (fun K hK => ?_)
  refine goes_ Try.func31 (by kernel_rfl) rfl #[.bool (a1_1.toList == ([] : List UInt8))] (by rfl) rfl rfl (by (try simp only [List.map_toArray, List.map_cons, List.map_nil]); first | done | rfl | (simp only [List.length_drop, List.length_take]; rfl) | (simp only [*]; rfl)) ?_
  with_reducible refine (order_worse.calls (a1_1.toList == ([] : List UInt8)) t243 _ A6.out).mono ?_
  rintro e w' ⟨rfl, ⟨nd, rfl⟩⟩
  refine ⟨_, rfl, ?_⟩
  refine hK.out _ _ ⟨(blk_cell BK236.out 0).trans rfl, (blk_cell BK236.out 1).trans rfl⟩ (fun hHeld => ?_)
  clear hK K
  refine norm_ (a' := ?_) ?_ ?_
  rotate_left
  ·show Act.put _ (some 32) _ = _
   simp only [Act.put, List.setIfInBounds_toArray, List.set_cons_zero, List.set_cons_succ, i64_w, i32_w]
   rfl
  refine pu_ 3 34 (h := ?_)
  refine pu_ 4 35 (h := ?_)
  refine pu_ 5 36 (h := ?_)
  refine tk_ 6 37 (h := ?_)
  refine one_ (i := 7) (N := some 38) #[true, true, true, true, true, true, true, true, false, false, false, true, false, false, false, false, false, false, true, true, true, true, true, true, true, false, false, false, false] rfl rfl (one_of HT_.out (by kernel_rfl)) (by decide) (fun K hK => ?_)
  refine goes_ Try.func30 (by kernel_rfl) rfl #[.string a1_1] (by rfl) rfl rfl (by (try simp only [List.map_toArray, List.map_cons, List.map_nil]); first | done | rfl | (simp only [List.length_drop, List.length_take]; rfl) | (simp only [*]; rfl)) ?_
  with_reducible refine (selecttab_Scope.calls k a1_1 t247 _ A33.out).mono ?_
  rintro e w53 ⟨rfl, hb⟩
  refine ⟨_, rfl, ?_⟩
  have n0_ := Aside0.mk (blk_below (g := gb235) (o := .cells #[.slice A0_0 l0_0.length c0_0, .slice A0_1 l0_1.length c0_1] 28 (0, 0)) (fA1 BK235) hb)
  have n1_ := Aside0.mk (blk_below (g := gb236) (o := .cells #[.string a1_0, .string a1_1] 34 (0, 0)) (fA1 BK236) hb)
  have n2_ := Aside0.mk (blk_below (g := gb237) (o := .cells #[.int .i64 0, .int .i64 0, .int .i64 0, .int .i64 0, .int .i64 0, .int .i64 0] 35 (0, 0)) (fA1 BK237) hb)
  have n3_ := Aside0.mk (below_step (fB3 GE235 GE236 GE237) hb)
  clear BK235
  clear BK236
  clear BK237
  clear HB
  have BK235 := n0_
  have BK236 := n1_
  have BK237 := n2_
  have HB := n3_
  clear n0_ n1_ n2_ n3_
  (try clear hb)
  (try clear hb2)
  (try clear hk)
  (try clear hi)
  refine hK.out _ _ ⟨(blk_cell BK236.out 0).trans rfl, (blk_cell BK236.out 1).trans rfl⟩ (fun hHeld => ?_)
  clear hK K
  refine norm_ (a' := ?_) ?_ ?_
  rotate_left
  ·show Act.put _ (some 38) _ = _
   simp only [Act.put, List.setIfInBounds_toArray, List.set_cons_zero, List.set_cons_succ, i64_w, i32_w]
   rfl
  refine pu_ 8 39 (h := ?_)
  refine pu_ 9 40 (h := ?_)
  refine one_ (i := 10) (N := some 41) #[true, true, true, true, true, true, true, true, true, true, true, true, false, false, false, false, false, false, true, true, true, true, true, true, true, false, false, false, false] rfl rfl (one_of HT_.out (by kernel_rfl)) (by decide) (fun K hK => ?_)
  refine goes_ Try.func31 (by kernel_rfl) rfl #[.bool (t242 != t247)] (by rfl) rfl rfl (by (try simp only [List.map_toArray, List.map_cons, List.map_nil]); first | done | rfl | (simp only [List.length_drop, List.length_take]; rfl) | (simp only [*]; rfl)) ?_
  with_reducible refine (order_worse.calls (t242 != t247) t248 _ A34.out).mono ?_
  rintro e w' ⟨rfl, ⟨nd, rfl⟩⟩
  refine ⟨_, rfl, ?_⟩
  refine hK.out _ _ ⟨(blk_cell BK236.out 0).trans rfl, (blk_cell BK236.out 1).trans rfl⟩ (fun hHeld => ?_)
  clear hK K
  refine norm_ (a' := ?_) ?_ ?_
  rotate_left
  ·show Act.put _ (some 41) _ = _
   simp only [Act.put, List.setIfInBounds_toArray, List.set_cons_zero, List.set_cons_succ, i64_w, i32_w]
   rfl
  refine pu_ 12 43 (h := ?_)
  refine pu_ 13 44 (h := ?_)
  refine pu_ 14 45 (h := ?_)
  refine pu_ 15 46 (h := ?_)
  refine pu_ 16 47 (h := ?_)
  refine one_ (i := 17) (N := some 48) #[true, true, true, true, true, true, true, true, true, true, true, true, true, true, true, true, true, true, true, true, true, true, true, true, true, false, false, false, false] rfl rfl (one_of HT_.out (by kernel_rfl)) (by decide) (fun K hK => ?_)
  refine goes_ Try.func31 (by kernel_rfl) rfl #[.bool (t238 != t240)] (by rfl) rfl rfl (by (try simp only [List.map_toArray, List.map_cons, List.map_nil]); first | done | rfl | (simp only [List.length_drop, List.length_take]; rfl) | (simp only [*]; rfl)) ?_
  with_reducible refine (order_worse.calls (t238 != t240) t249 _ A35.out).mono ?_
  rintro e w' ⟨rfl, ⟨nd, rfl⟩⟩
  refine ⟨_, rfl, ?_⟩
  refine hK.out _ _ ⟨(blk_cell BK236.out 0).trans rfl, (blk_cell BK236.out 1).trans rfl⟩ (fun hHeld => ?_)
  clear hK K
  refine norm_ (a' := ?_) ?_ ?_
  rotate_left
  ·show Act.put _ (some 48) _ = _
   simp only [Act.put, List.setIfInBounds_toArray, List.set_cons_zero, List.set_cons_succ, i64_w, i32_w]
   rfl
  refine one_ (i := 25) (N := some 56) #[true, true, true, true, true, true, true, true, true, true, true, true, true, true, true, true, true, true, true, true, true, true, true, true, true, true, false, false, false] rfl rfl (one_of HT_.out (by kernel_rfl)) (by decide) (fun K hK => ?_)
  refine goes_ Try.func32 (by kernel_rfl) rfl #[.string a1_0, .string a1_1] (by rfl) rfl rfl (by (try simp only [List.map_toArray, List.map_cons, List.map_nil]); first | done | rfl | (simp only [List.length_drop, List.length_take]; rfl) | (simp only [*]; rfl)) ?_
  with_reducible refine (addr_Common.calls k a1_0 a1_1 t250 _ A36.out).mono ?_
  rintro e w' ⟨rfl, ⟨nd, rfl⟩⟩
  refine ⟨_, rfl, ?_⟩
  refine hK.out _ _ ⟨(blk_cell BK236.out 0).trans rfl, (blk_cell BK236.out 1).trans rfl⟩ (fun hHeld => ?_)
  clear hK K
  refine norm_ (a' := ?_) ?_ ?_
  rotate_left
  ·show Act.put _ (some 56) _ = _
   simp only [Act.put, List.setIfInBounds_toArray, List.set_cons_zero, List.set_cons_succ, i64_w, i32_w]
   rfl
  refine pu_ 26 57 (h := ?_)
  refine pu_ 27 58 (h := ?_)
  refine one_ (i := 28) (N := none) #[true, true, true, true, true, true, true, true, true, true, true, true, true, true, true, true, true, true, true, true, true, true, true, true, true, true, true, true, true] rfl rfl (one_of HT_.out (by kernel_rfl)) (by decide) (fun K hK => ?_)
  have hs54 : w53.cell? ⟨gb237, 0, none⟩ = some (.int .i64 0) := (blk_cell BK237.out 0).trans rfl
  have hfs54 := blk_frozen BK237.out 0
  have hns54_0 := NB235_237.out
  have hns54_1 := NB236_237.out
  have hms54_0 := NB237_235.out
  have hms54_1 := NB237_236.out
  have hs55 : w53.cell? ⟨gb237, 1, none⟩ = some (.int .i64 0) := (blk_cell BK237.out 1).trans rfl
  have hfs55 := blk_frozen BK237.out 1
  have hns55_0 := NB235_237.out
  have hns55_1 := NB236_237.out
  have hms55_0 := NB237_235.out
  have hms55_1 := NB237_236.out
  have hs56 : w53.cell? ⟨gb237, 2, none⟩ = some (.int .i64 0) := (blk_cell BK237.out 2).trans rfl
  have hfs56 := blk_frozen BK237.out 2
  have hns56_0 := NB235_237.out
  have hns56_1 := NB236_237.out
  have hms56_0 := NB237_235.out
  have hms56_1 := NB237_236.out
  have hs57 : w53.cell? ⟨gb237, 3, none⟩ = some (.int .i64 0) := (blk_cell BK237.out 3).trans rfl
  have hfs57 := blk_frozen BK237.out 3
  have hns57_0 := NB235_237.out
  have hns57_1 := NB236_237.out
  have hms57_0 := NB237_235.out
  have hms57_1 := NB237_236.out
  have hs58 : w53.cell? ⟨gb237, 4, none⟩ = some (.int .i64 0) := (blk_cell BK237.out 4).trans rfl
  have hfs58 := blk_frozen BK237.out 4
  have hns58_0 := NB235_237.out
  have hns58_1 := NB236_237.out
  have hms58_0 := NB237_235.out
  have hms58_1 := NB237_236.out
  have hs59 : w53.cell? ⟨gb237, 5, none⟩ = some (.int .i64 0) := (blk_cell BK237.out 5).trans rfl
  have hfs59 := blk_frozen BK237.out 5
  have hns59_0 := NB235_237.out
  have hns59_1 := NB236_237.out
  have hms59_0 := NB237_235.out
  have hms59_1 := NB237_236.out
  refine skip_ (w1 := ?_) (by rfl) rfl ?_ ?_
  rotate_left
  ·go_simp
   rfl
  refine hK.out _ _ ⟨((cell_far (p := ⟨gb237, _, none⟩) NB236_237.out _).trans (((cell_far (p := ⟨gb237, _, none⟩) NB236_237.out _).trans (((cell_far (p := ⟨gb237, _, none⟩) NB236_237.out _).trans (((cell_far (p := ⟨gb237, _, none⟩) NB236_237.out _).trans (((cell_far (p := ⟨gb237, _, none⟩) NB236_237.out _).trans (((cell_far (p := ⟨gb237, _, none⟩) NB236_237.out _).trans (hHeld.1)))))))))))), ((cell_far (p := ⟨gb237, _, none⟩) NB236_237.out _).trans (((cell_far (p := ⟨gb237, _, none⟩) NB236_237.out _).trans (((cell_far (p := ⟨gb237, _, none⟩) NB236_237.out _).trans (((cell_far (p := ⟨gb237, _, none⟩) NB236_237.out _).trans (((cell_far (p := ⟨gb237, _, none⟩) NB236_237.out _).trans (((cell_far (p := ⟨gb237, _, none⟩) NB236_237.out _).trans (hHeld.2))))))))))))⟩ (fun hHeld => ?_)
  clear hK K
  refine done_ (done_of HT_.out (by kernel_rfl)) ?_
  try go_wp2
  refine bodyPost_ret (results_cell_row rfl _ _ gb237 35 #[.int .i64 t243, .int .i64 t248, .int .i64 t249, .int .i64 (wrap64 (-t239)), .int .i64 t242, .int .i64 (wrap64 (-t250))] (0, 0) _ rfl (by (with_reducible repeat (first | refine blk_drewN ?_ _ | refine blk_drew ?_ | refine blk_alloc ?_ _)); refine blk_put (cs := #[.int .i64 t243, .int .i64 t248, .int .i64 t249, .int .i64 (wrap64 (-t239)), .int .i64 t242, .int .i64 0]) ?_ 5 _ rfl; (with_reducible repeat (first | refine blk_drewN ?_ _ | refine blk_drew ?_ | refine blk_alloc ?_ _)); refine blk_put (cs := #[.int .i64 t243, .int .i64 t248, .int .i64 t249, .int .i64 (wrap64 (-t239)), .int .i64 0, .int .i64 0]) ?_ 4 _ rfl; (with_reducible repeat (first | refine blk_drewN ?_ _ | refine blk_drew ?_ | refine blk_alloc ?_ _)); refine blk_put (cs := #[.int .i64 t243, .int .i64 t248, .int .i64 t249, .int .i64 0, .int .i64 0, .int .i64 0]) ?_ 3 _ rfl; (with_reducible repeat (first | refine blk_drewN ?_ _ | refine blk_drew ?_ | refine blk_alloc ?_ _)); refine blk_put (cs := #[.int .i64 t243, .int .i64 t248, .int .i64 0, .int .i64 0, .int .i64 0, .int .i64 0]) ?_ 2 _ rfl; (with_reducible repeat (first | refine blk_drewN ?_ _ | refine blk_drew ?_ | refine blk_alloc ?_ _)); refine blk_put (cs := #[.int .i64 t243, .int .i64 0, .int .i64 0, .int .i64 0, .int .i64 0, .int .i64 0]) ?_ 1 _ rfl; (with_reducible repeat (first | refine blk_drewN ?_ _ | refine blk_drew ?_ | refine blk_alloc ?_ _)); refine blk_put (cs := #[.int .i64 0, .int .i64 0, .int .i64 0, .int .i64 0, .int .i64 0, .int .i64 0]) ?_ 0 _ rfl; (with_reducible repeat (first | refine blk_drewN ?_ _ | refine blk_drew ?_ | refine blk_alloc ?_ _)); exact BK237.out) Try.underlying35 rfl (by kernel_rfl)) rfl ?_
  exact ⟨by first | rfl | (simp [errW_none, errW_some] <;> rfl) | (simp [*, errW_none, errW_some] <;> rfl), (fB3 GE235 GE236 GE237)⟩
end Go.Proofs.Ytlfhahnceeoegaa.All
end
section
set_option linter.unusedVariables false
set_option linter.unusedSimpArgs false
namespace Go.Proofs.Ytlfhahnceeoegaa.All
open Go.RowKit Go.Lib Go.Sort Go.Shelf Go.Proofs.YtlfhahnceeoegaaW.PrintWords Go.Proofs.YtlfhahnceeoegaaW.PrintLast
def ci (x y : Int) : Int := if x < y then -1 else if x > y then 1 else 0
theorem cmp_some (x y : Int) : cmp_Compare_int.f x y = some (ci x y) := by
 by_cases h : x < y <;> by_cases h2 : x > y <;> simp [cmp_Compare_int.f, cmp_isNaN_int.f, ci, h, h2]
def cmp6 (a b : S35) : Int :=
 if ci a.f0 b.f0 = 0 then (if ci a.f1 b.f1 = 0 then (if ci a.f2 b.f2 = 0 then (if ci a.f3 b.f3 = 0 then (if ci a.f4 b.f4 = 0 then (if ci a.f5 b.f5 = 0 then 0 else ci a.f5 b.f5) else ci a.f4 b.f4) else ci a.f3 b.f3) else ci a.f2 b.f2) else ci a.f1 b.f1) else ci a.f0 b.f0
def six (a : S35) : List Int := [a.f0, a.f1, a.f2, a.f3, a.f4, a.f5]
theorem step6 (a b : S35) (i : Nat) (hi : i < 6) (k : Nat) :
  slices_Compare_int_int.l0 (k + 1) (six a) (six b) (six a) 6 (i : Int) =
   if ci ((six a).getD i 0) ((six b).getD i 0) = 0 then slices_Compare_int_int.l0 k (six a) (six b) (six a) 6 ((i + 1 : Nat) : Int) else some (ci ((six a).getD i 0) ((six b).getD i 0)) := by
 have h6 : ((six a).length : Int) = 6 := rfl
 have h6' : ((six b).length : Int) = 6 := rfl
 have hw : wrap64 ((i : Int) + 1) = ((i + 1 : Nat) : Int) := by unfold wrap64; omega
 simp only [slices_Compare_int_int.l0, h6, h6']
 rw [if_pos (by omega), if_pos (by omega), if_pos (by omega), if_neg (by omega), if_pos (by omega), cmp_some, hw]
 simp only [Option.bind_some, rd, Int.toNat_natCast]
theorem last6 (a b : S35) (k : Nat) : slices_Compare_int_int.l0 (k + 1) (six a) (six b) (six a) 6 ((6 : Nat) : Int) = some 0 := by
 simp only [slices_Compare_int_int.l0]
 rw [if_neg (by omega)]
 rfl
theorem compare_some (a b : S35) : slices_Compare_int_int.f 7 (six a) (six b) = some (cmp6 a b) := by
 show slices_Compare_int_int.l0 7 (six a) (six b) (six a) 6 ((0 : Nat) : Int) = _
 rw [step6 a b 0 (by omega), step6 a b 1 (by omega), step6 a b 2 (by omega), step6 a b 3 (by omega), step6 a b 4 (by omega), step6 a b 5 (by omega), last6]
 simp only [six, cmp6, List.getD_cons_zero, List.getD_cons_succ]
 repeat (first | rfl | split)
def keyV (a : S35) : Value := .agg #[.int .i64 a.f0, .int .i64 a.f1, .int .i64 a.f2, .int .i64 a.f3, .int .i64 a.f4, .int .i64 a.f5]
theorem reads6 (W : World) (b : Nat) (a : S35) (h : ∀ j, j < 6 → W.cell? ⟨b, j, none⟩ = some (.int .i64 ((six a).getD j 0))) : Kd.C (Kd.int .i64) W (some ⟨b, 0, none⟩) (six a).length (six a) :=
 Kd.C_of_reads (d := (0 : Int)) (h1 := fun _ => rfl) ⟨rfl, by show 6 ≤ _; omega, fun _ => ⟨_, rfl, fun j hj => by rw [add_plain]; exact h j hj⟩⟩
def boxed (a b : S35) (W : World) : World := (W.alloc (.cells #[.int .i64 a.f0, .int .i64 a.f1, .int .i64 a.f2, .int .i64 a.f3, .int .i64 a.f4, .int .i64 a.f5] 35)).alloc (.cells #[.int .i64 b.f0, .int .i64 b.f1, .int .i64 b.f2, .int .i64 b.f3, .int .i64 b.f4, .int .i64 b.f5] 35)
theorem boxed_grow (a b : S35) (W : World) : ∃ os, boxed a b W = grow W os := by
 unfold boxed
 rw [alloc_eq_grow, alloc_eq_grow, grow_grow]
 exact ⟨_, rfl⟩
theorem boxed_a (a b : S35) (W : World) (n : Nat) : Kd.C (Kd.int .i64) ((boxed a b W).drewN n) (some ⟨W.heap.size, 0, none⟩) (six a).length (six a) := by
 refine Kd.C_below (reads6 (boxed a b W) W.heap.size a ?_) (pw_below_drewN (Below.refl _ _) n)
 intro j hj
 unfold boxed
 match j, hj with
 | 0, _ => go_simp; rfl
 | 1, _ => go_simp; rfl
 | 2, _ => go_simp; rfl
 | 3, _ => go_simp; rfl
 | 4, _ => go_simp; rfl
 | 5, _ => go_simp; rfl
theorem boxed_b (a b : S35) (W : World) (n : Nat) : Kd.C (Kd.int .i64) ((boxed a b W).drewN n) (some ⟨W.heap.size + 1, 0, none⟩) (six b).length (six b) := by
 refine Kd.C_below (reads6 (boxed a b W) (W.heap.size + 1) b ?_) (pw_below_drewN (Below.refl _ _) n)
 intro j hj
 unfold boxed
 match j, hj with
 | 0, _ => go_simp; rfl
 | 1, _ => go_simp; rfl
 | 2, _ => go_simp; rfl
 | 3, _ => go_simp; rfl
 | 4, _ => go_simp; rfl
 | 5, _ => go_simp; rfl
set_option maxHeartbeats 1000000 in
theorem compare_exact (a b : S35) (W : World) : Calls Try.prog 27 #[keyV a, keyV b] W fun e w' => e = .returned (.int .i64 (cmp6 a b)) ∧ ∃ q os', w' = grow (W.drewN q) os' := by
 have hcon : ∀ n, Calls Try.prog 44 #[.slice (some ⟨W.heap.size, 0, none⟩) 6 6, .slice (some ⟨W.heap.size + 1, 0, none⟩) 6 6] ((boxed a b W).drewN n) fun e w'' => e = .returned (.int .i64 (cmp6 a b)) ∧ ∃ m, w'' = (boxed a b W).drewN m := fun n =>
  Calls.quiet_of ((slices_Compare_int_int.calls 7 _ 6 (six a) _ 6 (six b) _ _ (boxed_a a b W n) (Nat.le_refl _) (boxed_b a b W n) (Nat.le_refl _) (compare_some a b)).mono fun _ _ h => ⟨h.1, h.2.out⟩)
 obtain ⟨os, hos⟩ := boxed_grow a b W
 have HC := Lib.hid hcon
 have HG := Lib.hid hos
 clear hcon hos
 generalize hr : cmp6 a b = r at *
 clear hr
 unfold keyV
 go_enter Try.func27, Try.ntmps27
 go_wp2_with (fail)
 obtain ⟨W2, hW2⟩ : ∃ W2, W2 = boxed a b W := ⟨_, rfl⟩
 rw [show ((W.alloc (.cells #[.int .i64 a.f0, .int .i64 a.f1, .int .i64 a.f2, .int .i64 a.f3, .int .i64 a.f4, .int .i64 a.f5] 35)).alloc (.cells #[.int .i64 b.f0, .int .i64 b.f1, .int .i64 b.f2, .int .i64 b.f3, .int .i64 b.f4, .int .i64 b.f5] 35)) = W2 from hW2.symm]
 rw [← hW2] at HC HG
 clear hW2
 go_quiet ((go_at_call 44; exact HC.out _))
 go_wp2
 go_ret
 exact ⟨rfl, _, os, by rw [HG.out]; rfl⟩
end Go.Proofs.Ytlfhahnceeoegaa.All
end
section
namespace Go.Proofs
open Go.Shelf
def Try.insk_ren : Go.Shelf.Ren := ⟨fun | 20 => 53 | n => n, fun | 24 => 59 | 22 => 57 | 3 => 3 | 25 => 62 | 4 => 4 | 0 => 0 | n => n, fun | n => n⟩
theorem Try.insk : Go.Proofs.SlLaysF0.n20 Try.prog Try.insk_ren := {
 mixed := by kernel_rfl
 f20 := ⟨Try.f53.name, by decide, Try.func53.trans (congrArg some (by kernel_rfl))⟩
 t0 := Try.underlying0
 a0 := Try.isAgg0
 z0 := Try.sizeOf0
 v0 := Try.zeroValue0
 t3 := Try.underlying3
 a3 := Try.isAgg3
 z3 := Try.sizeOf3
 v3 := Try.zeroValue3
 t4 := Try.underlying4
 a4 := Try.isAgg4
 z4 := Try.sizeOf4
 v4 := Try.zeroValue4
 t22 := Try.underlying57
 a22 := Try.isAgg57
 z22 := Try.sizeOf57
 v22 := Try.zeroValue57
 t25 := Try.underlying62
 a25 := Try.isAgg62
 z25 := Try.sizeOf62
 v25 := Try.zeroValue62 }
end Go.Proofs
end
section
set_option linter.unusedVariables false
set_option linter.unusedSimpArgs false
namespace Go.Proofs.Ytlfhahnceeoegaa.All
open Go.RowKit Go.Lib Go.Sort Go.Shelf Go.Proofs.YtlfhahnceeoegaaW.PrintWords Go.Proofs.YtlfhahnceeoegaaW.PrintLast
def encK (x : S59) : List Value := [.string x.f0.f0, .string x.f0.f1, .int .i64 x.f1.f0, .int .i64 x.f1.f1, .int .i64 x.f1.f2, .int .i64 x.f1.f3, .int .i64 x.f1.f4, .int .i64 x.f1.f5]
def cmpK (x y : S59) : Int := cmp6 x.f1 y.f1
instance inhK : Inhabited S59 := ⟨z59⟩
set_option maxHeartbeats 1000000 in
theorem closure_exact (x y : S59) (W : World) : Calls Try.prog 26 #[.agg (encK x).toArray, .agg (encK y).toArray] W fun e w' => e = .returned (.int .i64 (cmpK x y)) ∧ ∃ q os', w' = grow (W.drewN q) os' := by
 have hcon := fun W' => compare_exact x.f1 y.f1 W'
 unfold cmpK
 generalize hr : cmp6 x.f1 y.f1 = r at *
 clear hr
 unfold keyV at hcon
 unfold encK
 go_enter Try.func26, Try.ntmps26
 go_wp2_with (go_at_call 27; refine (hcon _).mono ?_; rintro e w' ⟨rfl, q, os, rfl⟩)
 go_ret
 exact ⟨rfl, q, _, by rw [alloc_eq_grow, alloc_eq_grow, grow_grow]; exact grow_grow (W.drewN q) _ _⟩
theorem cmpLays (blk off size : Nat) (w : World) : CmpLays Try.prog 26 #[] encK 8 cmpK blk off size w := fun _ _ _ _ x y => closure_exact x y _
theorem encK_length (x : S59) : (encK x).length = 8 := rfl
theorem encK_one (x : S59) : ∀ v ∈ encK x, v.oneCell' = true := by
 intro v hv
 simp only [encK, List.mem_cons, List.not_mem_nil, or_false] at hv
 rcases hv with rfl | rfl | rfl | rfl | rfl | rfl | rfl | rfl <;> rfl
theorem holds_of_row {w : World} {base g n cap : Nat} {ok : Nat → Prop} {l : List S59} (h : Kd.R k59 59 w base ok (.slice (some ⟨g, 0, none⟩) n cap) l) : HoldsK encK 8 w g 0 l.toArray := by
 have hr := Kd.R_reads' h
 obtain ⟨inner, hown⟩ := Kd.R_own h
 intro t ht
 rw [size_flatK] at ht
 have ht' : t < l.length * 8 := by simpa using ht
 constructor
 ·obtain ⟨ad, c, hA, hc, hK, hcell⟩ := Kd.C_get hr.2.2 z59 ((t / 8 : Nat) : Int) (by omega) (by omega)
  injection hA with hA
  subst hA
  have hk := k59_open hK
  have hsz : (k59).sz = 8 := rfl
  rw [Int.toNat_natCast, hsz] at hcell
  rw [Int.toNat_natCast] at hk
  have he : c = encK (l.getD (t / 8) z59) := hk
  have hlt : t % 8 < c.length := by rw [he]; exact Nat.mod_lt _ (by omega)
  have h2 := hcell (t % 8) c[t % 8] (List.getElem?_eq_getElem hlt)
  rw [add_plain, show t / 8 * 8 + t % 8 = t by omega] at h2
  rw [Nat.zero_add, h2, get_flatK _ _ _ _ ht]
  have hi : t / 8 < l.length := by omega
  subst he
  have e1 : l.toArray[t / 8]! = l.getD (t / 8) z59 := by
   rw [getElem!_pos l.toArray (t / 8) (by simpa using hi)]
   simp [List.getD_eq_getElem?_getD, List.getElem?_eq_getElem hi]
  rw [e1, getElem!_pos (encK _) (t % 8) hlt]
  rfl
 ·rcases hown.2 with ⟨h1, _⟩ | ⟨g', cap', cur, h1, _, hh, _⟩
  ·cases h1
  ·injection h1 with h1
   injection h1 with h1
   injection h1 with h1
   subst h1
   simp [World.frozen?, hh]
theorem heap_put (w : World) (g m : Nat) (d : Array S59) (os : Array Obj) (i : Nat) (hi : i < w.heap.size) : (sortWorldK encK 8 w g 0 m d os).heap[i]? = (mapBlock w g (putCells id 0 (flatK encK 8 d))).heap[i]? := by
 unfold sortWorldK putRowK putRow
 rw [heap_grow_old _ _ (by simpa [mapBlock] using hi)]
 rfl
theorem heap_other (w : World) (g m : Nat) (d : Array S59) (os : Array Obj) (i : Nat) (hi : i < w.heap.size) (hne : i ≠ g) : (sortWorldK encK 8 w g 0 m d os).heap[i]? = w.heap[i]? := by
 rw [heap_put w g m d os i hi]
 simp [mapBlock, Array.getElem?_modify, Ne.symm hne]
theorem heap_self (w : World) (g m t : Nat) (fr : Nat × Nat) (cur : Array Value) (d : Array S59) (os : Array Obj) (h : w.heap[g]? = some (.cells cur t fr)) : (sortWorldK encK 8 w g 0 m d os).heap[g]? = some (.cells (putCells id 0 (flatK encK 8 d) cur) t fr) := by
 rw [heap_put w g m d os g (Array.getElem?_eq_some_iff.1 h).1]
 simp [mapBlock, Array.getElem?_modify, h, onCells]
theorem size_put (w : World) (g m : Nat) (d : Array S59) (os : Array Obj) : w.heap.size ≤ (sortWorldK encK 8 w g 0 m d os).heap.size := by
 unfold sortWorldK putRowK putRow mapBlock grow
 simp [Sort.ahead]
theorem row_of_put {w : World} {base g n cap : Nat} {ok : Nat → Prop} {l : List S59} (h : Kd.R k59 59 w base ok (.slice (some ⟨g, 0, none⟩) n cap) l) (d : Array S59) (hd : d.size = l.length) (m : Nat) (os : Array Obj) :
  Kd.R k59 59 (sortWorldK encK 8 w g 0 m d os) base ok (.slice (some ⟨g, 0, none⟩) n cap) d.toList := by
 have hr := Kd.R_reads' h
 obtain ⟨inner, hown⟩ := Kd.R_own h
 have hsz : (k59).sz = 8 := rfl
 rw [hsz] at hown
 refine ⟨h.1, (flatK encK 8 d).toList, ?_, ?_⟩
 ·rcases hown.2 with ⟨h1, _⟩ | ⟨g', cap', cur, h1, hg, hh, hle, hcap, hcs, _⟩
  ·cases h1
  ·injection h1 with h1 h2 h3
   injection h1 with h1
   injection h1 with h1
   subst h1; subst h3
   have hln : d.toList.length = l.length := by simpa using hd
   refine ⟨by simp [hsz], .inr ⟨g, cap, _, by rw [hln, ← hr.1], hg, heap_self w g m _ _ cur d os hh, by rw [hln]; omega, hcap, by simp [putCells, hcs, hsz], ?_⟩⟩
   apply List.ext_getElem?
   intro j
   rw [hsz, hln]
   by_cases hj : j < l.length * 8
   ·rw [List.getElem?_take_of_lt hj, Array.getElem?_toList, Array.getElem?_toList]
    have hj1 : j < cur.size := by rw [hcs]; omega
    have hj2 : j < (flatK encK 8 d).size := by rw [size_flatK, hd]; exact hj
    simp only [putCells, Array.getElem?_mapIdx, Array.getElem?_eq_getElem hj1, Array.getElem?_eq_getElem hj2, Option.map_some]
    rw [if_pos ⟨by omega, by omega⟩, Nat.sub_zero, getElem!_pos _ j hj2]
    rfl
   ·rw [List.getElem?_eq_none (by simp; omega), List.getElem?_eq_none (by simp; omega)]
 ·refine ⟨by simp [hsz], fun j p hp => ?_⟩
  have hj : j < d.size := by
   have := (List.getElem?_eq_some_iff.1 hp).1
   simpa using this
  have hpj : d[j]! = p := by
   rw [getElem!_pos d j hj]
   have := (List.getElem?_eq_some_iff.1 hp).2
   simpa using this
  have he : ((flatK encK 8 d).toList.drop (j * 8)).take 8 = encK p := by
   apply List.ext_getElem?
   intro c
   by_cases hc : c < 8
   ·rw [List.getElem?_take_of_lt hc, List.getElem?_drop, Array.getElem?_toList]
    have hlt : j * 8 + c < (flatK encK 8 d).size := by rw [size_flatK]; omega
    rw [Array.getElem?_eq_getElem hlt, ← getElem!_pos (flatK encK 8 d) (j * 8 + c) hlt, get_flatK _ _ _ _ (by omega), show (j * 8 + c) / 8 = j by omega, show (j * 8 + c) % 8 = c by omega, hpj]
    have hlc : c < (encK p).length := hc
    rw [getElem!_pos (encK p) c hlc, List.getElem?_eq_getElem hlc]
   ·rw [List.getElem?_eq_none (by simp; omega), List.getElem?_eq_none (by rw [encK_length]; omega)]
  show (k59).M _ _ _ p (((flatK encK 8 d).toList.drop (j * 8)).take 8)
  rw [he]
  exact k59_mkM _ _ _ p
theorem size_swp (d : Array S59) (i j : Nat) : (Sort.swp d i j).size = d.size := by simp [Sort.swp]
theorem size_inner (lt : S59 → S59 → Bool) (a : Nat) : ∀ (j : Nat) (d : Array S59), (Sort.insInner lt a j d).size = d.size
 | 0, d => by simp [Sort.insInner]
 | j + 1, d => by
  unfold Sort.insInner
  split
  ·rw [size_inner lt a j, size_swp]
  ·rfl
theorem size_outer (lt : S59 → S59 → Bool) (a b : Nat) : ∀ (n i : Nat) (d : Array S59), b - i = n → (Sort.insOuter lt a b i d).size = d.size
 | 0, i, d, h => by
  rw [Sort.insOuter, if_neg (by omega)]
 | n + 1, i, d, h => by
  rw [Sort.insOuter, if_pos (by omega), size_outer lt a b n (i + 1) _ (by omega), size_inner]
theorem size_insertionSort (lt : S59 → S59 → Bool) (d : Array S59) (a b : Nat) : (Sort.insertionSort lt d a b).size = d.size := size_outer lt a b _ _ d rfl
theorem take_of_row {w : World} {base : Nat} {ok : Nat → Prop} {v : Value} {l : List S59} (h : Kd.R k59 59 w base ok v l) : (v = .slice none 0 0 ∧ l = []) ∨ ∃ g cap, v = .slice (some ⟨g, 0, none⟩) l.length cap ∧ g < w.heap.size ∧ base ≤ g := by
 obtain ⟨inner, hown⟩ := Kd.R_own h
 rcases hown.2 with ⟨h1, h2⟩ | ⟨g, cap, cur, h1, hg, hh, _⟩
 ·exact .inl ⟨h1, List.eq_nil_of_length_eq_zero h2⟩
 ·exact .inr ⟨g, cap, h1, (Array.getElem?_eq_some_iff.1 hh).1, hg⟩
def insS (a : Nat) : Nat → Nat → Array S59 → Array S59
 | 0, _, d => d
 | n + 1, i, d => insS a n (i + 1) (Sort.insInner (ltOf cmpK) a i d)
theorem insS_eq (a b : Nat) : ∀ (n i : Nat) (d : Array S59), b - i = n → Sort.insOuter (ltOf cmpK) a b i d = insS a n i d
 | 0, i, d, h => by rw [Sort.insOuter, if_neg (by omega)]; rfl
 | n + 1, i, d, h => by rw [Sort.insOuter, if_pos (by omega), insS_eq a b n (i + 1) _ (by omega)]; rfl
def insertionS (l : List S59) (a b : Nat) : List S59 := (insS a (b - (a + 1)) (a + 1) l.toArray).toList
theorem insertionS_eq (l : List S59) (a b : Nat) : insertionS l a b = (Sort.insertionSort (ltOf cmpK) l.toArray a b).toList := by
 unfold insertionS Sort.insertionSort
 rw [insS_eq a b _ _ _ rfl]
def order_keyed_53.f (l0 : List S59) (a1 a2 : Int) (a3 : Nat) : Option (List S59) :=
 if a3 = 26 ∧ 0 ≤ a1 ∧ a1 ≤ a2 ∧ a2 ≤ l0.length ∧ l0.length < 4611686018427387904 then some (insertionS l0 a1.toNat a2.toNat) else none
set_option maxHeartbeats 1000000 in
theorem insertion_nil (cap : Nat) (fv : Value) (w : World) : Calls Try.prog 53 #[.slice none 0 cap, .int .i64 0, .int .i64 0, fv] w fun e w' => e = .returned (.tuple #[]) ∧ w' = w := by
 go_enter Try.func53, Try.ntmps53
 go_wp2
 refine wp_loop_rounds 1 ?_
 rw [rounds_succ]
 go_wp2
 go_end0
 exact ⟨rfl, rfl⟩
theorem order_keyed_53.calls (P0_ : Nat → Prop) (u9000_ : Value) (l0 : List S59) (a1 : Int) (a2 : Int) (a3 : Nat) (r : List S59) (w0 w : World) (hB : Below w0.heap.size w0 w) (ho0 : Kd.R k59 59 w w0.heap.size P0_ u9000_ l0) (h : order_keyed_53.f l0 a1 a2 a3 = some r) :
  Calls Try.prog 53 #[u9000_, .int .i64 a1, .int .i64 a2, .func (.func a3) #[] #[]] w fun e w' => e = .returned (.tuple #[]) ∧ Kd.R k59 59 w' w0.heap.size (fun k_ => (P0_ k_ ∨ w.heap.size ≤ k_)) u9000_ r ∧ Below w0.heap.size w0 w' ∧ Kept w w' (fun k_ => P0_ k_) := by
 unfold order_keyed_53.f at h
 by_cases hc : a3 = 26 ∧ 0 ≤ a1 ∧ a1 ≤ a2 ∧ a2 ≤ l0.length ∧ l0.length < 4611686018427387904
 ·rw [if_pos hc] at h
  obtain ⟨rfl, h0, h1, h2, h3⟩ := hc
  injection h with h
  rw [insertionS_eq] at h
  subst h
  rcases take_of_row ho0 with ⟨rfl, rfl⟩ | ⟨g, cap, rfl, hg, hb⟩
  ·obtain rfl : a1 = 0 := by simp at h2; omega
   obtain rfl : a2 = 0 := by simp at h2; omega
   refine (insertion_nil 0 _ w).mono fun e w' ⟨he, hw⟩ => ⟨he, ?_, ?_, ?_⟩
   ·have e1 : (Sort.insertionSort (ltOf cmpK) ([] : List S59).toArray (0 : Int).toNat (0 : Int).toNat).toList = [] := by
     unfold Sort.insertionSort
     rw [Sort.insOuter]
     rfl
    rw [e1]
    exact Kd.R_nil _ _ _ _ _
   ·rw [hw]; exact hB
   ·rw [hw]; exact Kept.refl w _
  ·obtain ⟨n1, rfl⟩ := Int.eq_ofNat_of_zero_le h0
   obtain ⟨n2, rfl⟩ := Int.eq_ofNat_of_zero_le (show 0 ≤ a2 by omega)
   have eg : ∀ args w, (callFunc 26 args).run Try.prog w = .ok (.enter 26 args) w := enters_of Try.func26 (by kernel_rfl) rfl
   have hcon := AnyQ.insertionSortCmpFunc Try.insk 8 Try.isAgg59 Try.sizeOf59 encK encK_length encK_one cmpK 26 #[] g 0 cap n1 n2 l0.toArray w eg (cmpLays g 0 _ w) (holds_of_row ho0) hg (by omega) (by simpa using h2) (by simpa using h3)
   change Calls Try.prog 53 _ _ _ at hcon
   refine hcon.mono fun e w' ⟨he, n, os, hw⟩ => ⟨he, ?_, ?_, ?_⟩
   ·rw [hw]
    exact Kd.R_mono (row_of_put ho0 _ (by rw [size_insertionSort]; simp) n os) (fun k hk => .inl hk)
   ·rw [hw]
    refine hB.trans ⟨rfl, rfl, rfl, size_put w g n _ os, fun i hi => heap_other w g n _ os i (by have := hB.size; omega) (by omega)⟩
   ·rw [hw]
    exact ⟨size_put w g n _ os, fun i hi hn => heap_other w g n _ os i hi (fun e_ => hn (by rw [e_]; exact ho0.1 g rfl))⟩
 ·rw [if_neg hc] at h; cases h
def order_keyed_54.f (l0 : List S59) (a1 a2 a3 : Int) (a4 : Nat) : Option (List S59) := none
theorem order_keyed_54.calls (P0_ : Nat → Prop) (u9000_ : Value) (l0 : List S59) (a1 : Int) (a2 : Int) (a3 : Int) (a4 : Nat) (r : List S59) (w0 w : World) (hB : Below w0.heap.size w0 w) (ho0 : Kd.R k59 59 w w0.heap.size P0_ u9000_ l0) (h : order_keyed_54.f l0 a1 a2 a3 a4 = some r) :
  Calls Try.prog 54 #[u9000_, .int .i64 a1, .int .i64 a2, .int .i64 a3, .func (.func a4) #[] #[]] w fun e w' => e = .returned (.tuple #[]) ∧ Kd.R k59 59 w' w0.heap.size (fun k_ => (P0_ k_ ∨ w.heap.size ≤ k_)) u9000_ r ∧ Below w0.heap.size w0 w' ∧ Kept w w' (fun k_ => P0_ k_) := by
 cases h
end Go.Proofs.Ytlfhahnceeoegaa.All
end
