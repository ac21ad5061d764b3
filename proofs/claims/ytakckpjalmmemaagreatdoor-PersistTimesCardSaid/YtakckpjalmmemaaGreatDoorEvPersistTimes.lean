/- PersistTimes answers true: its runs by an evaluator that was proved sound. -/
import Derived.Test.YtakckpjalmmemaaGreatDoorEvPersistTimesRunO
import Derived.Test.YtakckpjalmmemaaGreatDoorEvPersistTimesRunR0
import Derived.Test.YtakckpjalmmemaaGreatDoorEvPersistTimesRunR1
import Derived.Test.YtakckpjalmmemaaGreatDoorEvPersistTimesRunR2
import Derived.Test.YtakckpjalmmemaaGreatDoorEvPersistTimesRunR3
import Derived.Test.YtakckpjalmmemaaGreatDoorEvPersistTimesRunR4
import Derived.Test.YtakckpjalmmemaaGreatDoorEvPersistTimesRunR5
import Derived.Test.YtakckpjalmmemaaGreatDoorEvPersistTimesRunR6
import Derived.Test.YtakckpjalmmemaaGreatDoorEvPersistTimesRunR7
import Derived.Test.YtakckpjalmmemaaGreatDoorRows
import Derived.WalkKit
import Derived.ProofKit
import Derived.OpenShut
import Derived.ChangeOld
import Derived.Below
import Derived.SizedLaws
import Derived.KernelRfl
import Derived.Lay
import Derived.LaidHandle
import Derived.Stop.Joined
import Derived.Test.YtakckpjalmmemaaGreatDoorTie
import Derived.Test.YtakckpjalmmemaaGreatDoorCards
import Derived.SevenTiedAt
namespace Go.Proofs.YtakckpjalmmemaaGreatDoor.persistTimes
open Go.ChangeShapes Go.WideShapes Go.ChangeAt Go.RowKit Go.YtakckpjalmmemaaGreatDoorEv
set_option linter.unusedVariables false
set_option maxRecDepth 100000
theorem all1 {w m : Nat} (hw : w < 101) (hm : m < 101) : Ok (.ofNat 1) (.ofNat w) (.ofNat m) := by
  rcases Nat.eq_zero_or_pos w with a | a <;> rcases Nat.eq_zero_or_pos m with b | b
  · subst a; subst b; exact (letI : Lane := ⟨0⟩; leafR (.cons (.int ..) (.cons (.int ..) (.cons (.int ..) .nil))) r1_0)
  · subst a; rcases Nat.lt_or_ge m 1 with c | c
    · exact absurd hw (by omega)
    · exact (letI : Lane := ⟨0⟩; leafR (.cons (.int ..) (.cons (.int ..) (.cons (rg c (by omega)) .nil))) r1_2)
  · subst b; rcases Nat.lt_or_ge w 1 with c | c
    · exact absurd hw (by omega)
    · exact (letI : Lane := ⟨0⟩; leafR (.cons (.int ..) (.cons (rg c (by omega)) (.cons (.int ..) .nil))) r1_6)
  · rcases Nat.lt_or_ge w 1 with c | c
    · rcases Nat.lt_or_ge (w + m) 1 with d | d
      · exact absurd hw (by omega)
      · exact absurd hw (by omega)
    · exact (letI : Lane := ⟨0⟩; leafR (.cons (.int ..) (.cons (rg c (by omega)) (.cons (rg b (by omega)) .nil))) r1_7)
theorem all2 {w m : Nat} (hw : w < 101) (hm : m < 101) : Ok (.ofNat 2) (.ofNat w) (.ofNat m) := by
  rcases Nat.eq_zero_or_pos w with a | a <;> rcases Nat.eq_zero_or_pos m with b | b
  · subst a; subst b; exact (letI : Lane := ⟨0⟩; leafR (.cons (.int ..) (.cons (.int ..) (.cons (.int ..) .nil))) r2_0)
  · subst a; rcases Nat.lt_or_ge m 2 with c | c
    · exact (letI : Lane := ⟨0⟩; leafR (.cons (.int ..) (.cons (.int ..) (.cons (rg b (by omega)) .nil))) r2_1)
    · exact (letI : Lane := ⟨0⟩; leafR (.cons (.int ..) (.cons (.int ..) (.cons (rg c (by omega)) .nil))) r2_2)
  · subst b; rcases Nat.lt_or_ge w 2 with c | c
    · exact (letI : Lane := ⟨0⟩; leafR (.cons (.int ..) (.cons (rg a (by omega)) (.cons (.int ..) .nil))) r2_3)
    · exact (letI : Lane := ⟨0⟩; leafR (.cons (.int ..) (.cons (rg c (by omega)) (.cons (.int ..) .nil))) r2_6)
  · rcases Nat.lt_or_ge w 2 with c | c
    · rcases Nat.lt_or_ge (w + m) 2 with d | d
      · exact absurd hw (by omega)
      · exact leafF a c d hm r2_5
    · exact (letI : Lane := ⟨0⟩; leafR (.cons (.int ..) (.cons (rg c (by omega)) (.cons (rg b (by omega)) .nil))) r2_7)
theorem all3 {w m : Nat} (hw : w < 101) (hm : m < 101) : Ok (.ofNat 3) (.ofNat w) (.ofNat m) := by
  rcases Nat.eq_zero_or_pos w with a | a <;> rcases Nat.eq_zero_or_pos m with b | b
  · subst a; subst b; exact (letI : Lane := ⟨0⟩; leafR (.cons (.int ..) (.cons (.int ..) (.cons (.int ..) .nil))) r3_0)
  · subst a; rcases Nat.lt_or_ge m 3 with c | c
    · exact (letI : Lane := ⟨0⟩; leafR (.cons (.int ..) (.cons (.int ..) (.cons (rg b (by omega)) .nil))) r3_1)
    · exact (letI : Lane := ⟨0⟩; leafR (.cons (.int ..) (.cons (.int ..) (.cons (rg c (by omega)) .nil))) r3_2)
  · subst b; rcases Nat.lt_or_ge w 3 with c | c
    · exact (letI : Lane := ⟨0⟩; leafR (.cons (.int ..) (.cons (rg a (by omega)) (.cons (.int ..) .nil))) r3_3)
    · exact (letI : Lane := ⟨0⟩; leafR (.cons (.int ..) (.cons (rg c (by omega)) (.cons (.int ..) .nil))) r3_6)
  · rcases Nat.lt_or_ge w 3 with c | c
    · rcases Nat.lt_or_ge (w + m) 3 with d | d
      · exact leafE a b d r3_4
      · exact leafF a c d hm r3_5
    · exact (letI : Lane := ⟨0⟩; leafR (.cons (.int ..) (.cons (rg c (by omega)) (.cons (rg b (by omega)) .nil))) r3_7)
theorem all4 {w m : Nat} (hw : w < 101) (hm : m < 101) : Ok (.ofNat 4) (.ofNat w) (.ofNat m) := by
  rcases Nat.eq_zero_or_pos w with a | a <;> rcases Nat.eq_zero_or_pos m with b | b
  · subst a; subst b; exact (letI : Lane := ⟨0⟩; leafR (.cons (.int ..) (.cons (.int ..) (.cons (.int ..) .nil))) r4_0)
  · subst a; rcases Nat.lt_or_ge m 4 with c | c
    · exact (letI : Lane := ⟨0⟩; leafR (.cons (.int ..) (.cons (.int ..) (.cons (rg b (by omega)) .nil))) r4_1)
    · exact (letI : Lane := ⟨0⟩; leafR (.cons (.int ..) (.cons (.int ..) (.cons (rg c (by omega)) .nil))) r4_2)
  · subst b; rcases Nat.lt_or_ge w 4 with c | c
    · exact (letI : Lane := ⟨0⟩; leafR (.cons (.int ..) (.cons (rg a (by omega)) (.cons (.int ..) .nil))) r4_3)
    · exact (letI : Lane := ⟨0⟩; leafR (.cons (.int ..) (.cons (rg c (by omega)) (.cons (.int ..) .nil))) r4_6)
  · rcases Nat.lt_or_ge w 4 with c | c
    · rcases Nat.lt_or_ge (w + m) 4 with d | d
      · exact leafE a b d r4_4
      · exact leafF a c d hm r4_5
    · exact (letI : Lane := ⟨0⟩; leafR (.cons (.int ..) (.cons (rg c (by omega)) (.cons (rg b (by omega)) .nil))) r4_7)
theorem all5 {w m : Nat} (hw : w < 101) (hm : m < 101) : Ok (.ofNat 5) (.ofNat w) (.ofNat m) := by
  rcases Nat.eq_zero_or_pos w with a | a <;> rcases Nat.eq_zero_or_pos m with b | b
  · subst a; subst b; exact (letI : Lane := ⟨0⟩; leafR (.cons (.int ..) (.cons (.int ..) (.cons (.int ..) .nil))) r5_0)
  · subst a; rcases Nat.lt_or_ge m 5 with c | c
    · exact (letI : Lane := ⟨0⟩; leafR (.cons (.int ..) (.cons (.int ..) (.cons (rg b (by omega)) .nil))) r5_1)
    · exact (letI : Lane := ⟨0⟩; leafR (.cons (.int ..) (.cons (.int ..) (.cons (rg c (by omega)) .nil))) r5_2)
  · subst b; rcases Nat.lt_or_ge w 5 with c | c
    · exact (letI : Lane := ⟨0⟩; leafR (.cons (.int ..) (.cons (rg a (by omega)) (.cons (.int ..) .nil))) r5_3)
    · exact (letI : Lane := ⟨0⟩; leafR (.cons (.int ..) (.cons (rg c (by omega)) (.cons (.int ..) .nil))) r5_6)
  · rcases Nat.lt_or_ge w 5 with c | c
    · rcases Nat.lt_or_ge (w + m) 5 with d | d
      · exact leafE a b d r5_4
      · exact leafF a c d hm r5_5
    · exact (letI : Lane := ⟨0⟩; leafR (.cons (.int ..) (.cons (rg c (by omega)) (.cons (rg b (by omega)) .nil))) r5_7)
theorem all6 {w m : Nat} (hw : w < 101) (hm : m < 101) : Ok (.ofNat 6) (.ofNat w) (.ofNat m) := by
  rcases Nat.eq_zero_or_pos w with a | a <;> rcases Nat.eq_zero_or_pos m with b | b
  · subst a; subst b; exact (letI : Lane := ⟨0⟩; leafR (.cons (.int ..) (.cons (.int ..) (.cons (.int ..) .nil))) r6_0)
  · subst a; rcases Nat.lt_or_ge m 6 with c | c
    · exact (letI : Lane := ⟨0⟩; leafR (.cons (.int ..) (.cons (.int ..) (.cons (rg b (by omega)) .nil))) r6_1)
    · exact (letI : Lane := ⟨0⟩; leafR (.cons (.int ..) (.cons (.int ..) (.cons (rg c (by omega)) .nil))) r6_2)
  · subst b; rcases Nat.lt_or_ge w 6 with c | c
    · exact (letI : Lane := ⟨0⟩; leafR (.cons (.int ..) (.cons (rg a (by omega)) (.cons (.int ..) .nil))) r6_3)
    · exact (letI : Lane := ⟨0⟩; leafR (.cons (.int ..) (.cons (rg c (by omega)) (.cons (.int ..) .nil))) r6_6)
  · rcases Nat.lt_or_ge w 6 with c | c
    · rcases Nat.lt_or_ge (w + m) 6 with d | d
      · exact leafE a b d r6_4
      · exact leafF a c d hm r6_5
    · exact (letI : Lane := ⟨0⟩; leafR (.cons (.int ..) (.cons (rg c (by omega)) (.cons (rg b (by omega)) .nil))) r6_7)
theorem all7 {w m : Nat} (hw : w < 101) (hm : m < 101) : Ok (.ofNat 7) (.ofNat w) (.ofNat m) := by
  rcases Nat.eq_zero_or_pos w with a | a <;> rcases Nat.eq_zero_or_pos m with b | b
  · subst a; subst b; exact (letI : Lane := ⟨0⟩; leafR (.cons (.int ..) (.cons (.int ..) (.cons (.int ..) .nil))) r7_0)
  · subst a; rcases Nat.lt_or_ge m 7 with c | c
    · exact (letI : Lane := ⟨0⟩; leafR (.cons (.int ..) (.cons (.int ..) (.cons (rg b (by omega)) .nil))) r7_1)
    · exact (letI : Lane := ⟨0⟩; leafR (.cons (.int ..) (.cons (.int ..) (.cons (rg c (by omega)) .nil))) r7_2)
  · subst b; rcases Nat.lt_or_ge w 7 with c | c
    · exact (letI : Lane := ⟨0⟩; leafR (.cons (.int ..) (.cons (rg a (by omega)) (.cons (.int ..) .nil))) r7_3)
    · exact (letI : Lane := ⟨0⟩; leafR (.cons (.int ..) (.cons (rg c (by omega)) (.cons (.int ..) .nil))) r7_6)
  · rcases Nat.lt_or_ge w 7 with c | c
    · rcases Nat.lt_or_ge (w + m) 7 with d | d
      · exact leafE a b d r7_4
      · exact leafF a c d hm r7_5
    · exact (letI : Lane := ⟨0⟩; leafR (.cons (.int ..) (.cons (rg c (by omega)) (.cons (rg b (by omega)) .nil))) r7_7)
theorem all8 {w m : Nat} (hw : w < 101) (hm : m < 101) : Ok (.ofNat 8) (.ofNat w) (.ofNat m) := by
  rcases Nat.eq_zero_or_pos w with a | a <;> rcases Nat.eq_zero_or_pos m with b | b
  · subst a; subst b; exact (letI : Lane := ⟨0⟩; leafR (.cons (.int ..) (.cons (.int ..) (.cons (.int ..) .nil))) r8_0)
  · subst a; rcases Nat.lt_or_ge m 8 with c | c
    · exact (letI : Lane := ⟨0⟩; leafR (.cons (.int ..) (.cons (.int ..) (.cons (rg b (by omega)) .nil))) r8_1)
    · exact (letI : Lane := ⟨0⟩; leafR (.cons (.int ..) (.cons (.int ..) (.cons (rg c (by omega)) .nil))) r8_2)
  · subst b; rcases Nat.lt_or_ge w 8 with c | c
    · exact (letI : Lane := ⟨0⟩; leafR (.cons (.int ..) (.cons (rg a (by omega)) (.cons (.int ..) .nil))) r8_3)
    · exact (letI : Lane := ⟨0⟩; leafR (.cons (.int ..) (.cons (rg c (by omega)) (.cons (.int ..) .nil))) r8_6)
  · rcases Nat.lt_or_ge w 8 with c | c
    · rcases Nat.lt_or_ge (w + m) 8 with d | d
      · exact leafE a b d r8_4
      · exact leafF a c d hm r8_5
    · exact (letI : Lane := ⟨0⟩; leafR (.cons (.int ..) (.cons (rg c (by omega)) (.cons (rg b (by omega)) .nil))) r8_7)
theorem all9 {w m : Nat} (hw : w < 101) (hm : m < 101) : Ok (.ofNat 9) (.ofNat w) (.ofNat m) := by
  rcases Nat.eq_zero_or_pos w with a | a <;> rcases Nat.eq_zero_or_pos m with b | b
  · subst a; subst b; exact (letI : Lane := ⟨0⟩; leafR (.cons (.int ..) (.cons (.int ..) (.cons (.int ..) .nil))) r9_0)
  · subst a; rcases Nat.lt_or_ge m 9 with c | c
    · exact (letI : Lane := ⟨0⟩; leafR (.cons (.int ..) (.cons (.int ..) (.cons (rg b (by omega)) .nil))) r9_1)
    · exact (letI : Lane := ⟨0⟩; leafR (.cons (.int ..) (.cons (.int ..) (.cons (rg c (by omega)) .nil))) r9_2)
  · subst b; rcases Nat.lt_or_ge w 9 with c | c
    · exact (letI : Lane := ⟨0⟩; leafR (.cons (.int ..) (.cons (rg a (by omega)) (.cons (.int ..) .nil))) r9_3)
    · exact (letI : Lane := ⟨0⟩; leafR (.cons (.int ..) (.cons (rg c (by omega)) (.cons (.int ..) .nil))) r9_6)
  · rcases Nat.lt_or_ge w 9 with c | c
    · rcases Nat.lt_or_ge (w + m) 9 with d | d
      · exact leafE a b d r9_4
      · exact leafF a c d hm r9_5
    · exact (letI : Lane := ⟨0⟩; leafR (.cons (.int ..) (.cons (rg c (by omega)) (.cons (rg b (by omega)) .nil))) r9_7)
theorem all10 {w m : Nat} (hw : w < 101) (hm : m < 101) : Ok (.ofNat 10) (.ofNat w) (.ofNat m) := by
  rcases Nat.eq_zero_or_pos w with a | a <;> rcases Nat.eq_zero_or_pos m with b | b
  · subst a; subst b; exact (letI : Lane := ⟨0⟩; leafR (.cons (.int ..) (.cons (.int ..) (.cons (.int ..) .nil))) r10_0)
  · subst a; rcases Nat.lt_or_ge m 10 with c | c
    · exact (letI : Lane := ⟨0⟩; leafR (.cons (.int ..) (.cons (.int ..) (.cons (rg b (by omega)) .nil))) r10_1)
    · exact (letI : Lane := ⟨0⟩; leafR (.cons (.int ..) (.cons (.int ..) (.cons (rg c (by omega)) .nil))) r10_2)
  · subst b; rcases Nat.lt_or_ge w 10 with c | c
    · exact (letI : Lane := ⟨0⟩; leafR (.cons (.int ..) (.cons (rg a (by omega)) (.cons (.int ..) .nil))) r10_3)
    · exact (letI : Lane := ⟨0⟩; leafR (.cons (.int ..) (.cons (rg c (by omega)) (.cons (.int ..) .nil))) r10_6)
  · rcases Nat.lt_or_ge w 10 with c | c
    · rcases Nat.lt_or_ge (w + m) 10 with d | d
      · exact leafE a b d r10_4
      · exact leafF a c d hm r10_5
    · exact (letI : Lane := ⟨0⟩; leafR (.cons (.int ..) (.cons (rg c (by omega)) (.cons (rg b (by omega)) .nil))) r10_7)
theorem all11 {w m : Nat} (hw : w < 101) (hm : m < 101) : Ok (.ofNat 11) (.ofNat w) (.ofNat m) := by
  rcases Nat.eq_zero_or_pos w with a | a <;> rcases Nat.eq_zero_or_pos m with b | b
  · subst a; subst b; exact (letI : Lane := ⟨0⟩; leafR (.cons (.int ..) (.cons (.int ..) (.cons (.int ..) .nil))) r11_0)
  · subst a; rcases Nat.lt_or_ge m 11 with c | c
    · exact (letI : Lane := ⟨0⟩; leafR (.cons (.int ..) (.cons (.int ..) (.cons (rg b (by omega)) .nil))) r11_1)
    · exact (letI : Lane := ⟨0⟩; leafR (.cons (.int ..) (.cons (.int ..) (.cons (rg c (by omega)) .nil))) r11_2)
  · subst b; rcases Nat.lt_or_ge w 11 with c | c
    · exact (letI : Lane := ⟨0⟩; leafR (.cons (.int ..) (.cons (rg a (by omega)) (.cons (.int ..) .nil))) r11_3)
    · exact (letI : Lane := ⟨0⟩; leafR (.cons (.int ..) (.cons (rg c (by omega)) (.cons (.int ..) .nil))) r11_6)
  · rcases Nat.lt_or_ge w 11 with c | c
    · rcases Nat.lt_or_ge (w + m) 11 with d | d
      · exact leafE a b d r11_4
      · exact leafF a c d hm r11_5
    · exact (letI : Lane := ⟨0⟩; leafR (.cons (.int ..) (.cons (rg c (by omega)) (.cons (rg b (by omega)) .nil))) r11_7)
theorem all12 {w m : Nat} (hw : w < 101) (hm : m < 101) : Ok (.ofNat 12) (.ofNat w) (.ofNat m) := by
  rcases Nat.eq_zero_or_pos w with a | a <;> rcases Nat.eq_zero_or_pos m with b | b
  · subst a; subst b; exact (letI : Lane := ⟨0⟩; leafR (.cons (.int ..) (.cons (.int ..) (.cons (.int ..) .nil))) r12_0)
  · subst a; rcases Nat.lt_or_ge m 12 with c | c
    · exact (letI : Lane := ⟨0⟩; leafR (.cons (.int ..) (.cons (.int ..) (.cons (rg b (by omega)) .nil))) r12_1)
    · exact (letI : Lane := ⟨0⟩; leafR (.cons (.int ..) (.cons (.int ..) (.cons (rg c (by omega)) .nil))) r12_2)
  · subst b; rcases Nat.lt_or_ge w 12 with c | c
    · exact (letI : Lane := ⟨0⟩; leafR (.cons (.int ..) (.cons (rg a (by omega)) (.cons (.int ..) .nil))) r12_3)
    · exact (letI : Lane := ⟨0⟩; leafR (.cons (.int ..) (.cons (rg c (by omega)) (.cons (.int ..) .nil))) r12_6)
  · rcases Nat.lt_or_ge w 12 with c | c
    · rcases Nat.lt_or_ge (w + m) 12 with d | d
      · exact leafE a b d r12_4
      · exact leafF a c d hm r12_5
    · exact (letI : Lane := ⟨0⟩; leafR (.cons (.int ..) (.cons (rg c (by omega)) (.cons (rg b (by omega)) .nil))) r12_7)
theorem all13 {w m : Nat} (hw : w < 101) (hm : m < 101) : Ok (.ofNat 13) (.ofNat w) (.ofNat m) := by
  rcases Nat.eq_zero_or_pos w with a | a <;> rcases Nat.eq_zero_or_pos m with b | b
  · subst a; subst b; exact (letI : Lane := ⟨0⟩; leafR (.cons (.int ..) (.cons (.int ..) (.cons (.int ..) .nil))) r13_0)
  · subst a; rcases Nat.lt_or_ge m 13 with c | c
    · exact (letI : Lane := ⟨0⟩; leafR (.cons (.int ..) (.cons (.int ..) (.cons (rg b (by omega)) .nil))) r13_1)
    · exact (letI : Lane := ⟨0⟩; leafR (.cons (.int ..) (.cons (.int ..) (.cons (rg c (by omega)) .nil))) r13_2)
  · subst b; rcases Nat.lt_or_ge w 13 with c | c
    · exact (letI : Lane := ⟨0⟩; leafR (.cons (.int ..) (.cons (rg a (by omega)) (.cons (.int ..) .nil))) r13_3)
    · exact (letI : Lane := ⟨0⟩; leafR (.cons (.int ..) (.cons (rg c (by omega)) (.cons (.int ..) .nil))) r13_6)
  · rcases Nat.lt_or_ge w 13 with c | c
    · rcases Nat.lt_or_ge (w + m) 13 with d | d
      · exact leafE a b d r13_4
      · exact leafF a c d hm r13_5
    · exact (letI : Lane := ⟨0⟩; leafR (.cons (.int ..) (.cons (rg c (by omega)) (.cons (rg b (by omega)) .nil))) r13_7)
theorem all14 {w m : Nat} (hw : w < 101) (hm : m < 101) : Ok (.ofNat 14) (.ofNat w) (.ofNat m) := by
  rcases Nat.eq_zero_or_pos w with a | a <;> rcases Nat.eq_zero_or_pos m with b | b
  · subst a; subst b; exact (letI : Lane := ⟨0⟩; leafR (.cons (.int ..) (.cons (.int ..) (.cons (.int ..) .nil))) r14_0)
  · subst a; rcases Nat.lt_or_ge m 14 with c | c
    · exact (letI : Lane := ⟨0⟩; leafR (.cons (.int ..) (.cons (.int ..) (.cons (rg b (by omega)) .nil))) r14_1)
    · exact (letI : Lane := ⟨0⟩; leafR (.cons (.int ..) (.cons (.int ..) (.cons (rg c (by omega)) .nil))) r14_2)
  · subst b; rcases Nat.lt_or_ge w 14 with c | c
    · exact (letI : Lane := ⟨0⟩; leafR (.cons (.int ..) (.cons (rg a (by omega)) (.cons (.int ..) .nil))) r14_3)
    · exact (letI : Lane := ⟨0⟩; leafR (.cons (.int ..) (.cons (rg c (by omega)) (.cons (.int ..) .nil))) r14_6)
  · rcases Nat.lt_or_ge w 14 with c | c
    · rcases Nat.lt_or_ge (w + m) 14 with d | d
      · exact leafE a b d r14_4
      · exact leafF a c d hm r14_5
    · exact (letI : Lane := ⟨0⟩; leafR (.cons (.int ..) (.cons (rg c (by omega)) (.cons (rg b (by omega)) .nil))) r14_7)
theorem all15 {w m : Nat} (hw : w < 101) (hm : m < 101) : Ok (.ofNat 15) (.ofNat w) (.ofNat m) := by
  rcases Nat.eq_zero_or_pos w with a | a <;> rcases Nat.eq_zero_or_pos m with b | b
  · subst a; subst b; exact (letI : Lane := ⟨0⟩; leafR (.cons (.int ..) (.cons (.int ..) (.cons (.int ..) .nil))) r15_0)
  · subst a; rcases Nat.lt_or_ge m 15 with c | c
    · exact (letI : Lane := ⟨0⟩; leafR (.cons (.int ..) (.cons (.int ..) (.cons (rg b (by omega)) .nil))) r15_1)
    · exact (letI : Lane := ⟨0⟩; leafR (.cons (.int ..) (.cons (.int ..) (.cons (rg c (by omega)) .nil))) r15_2)
  · subst b; rcases Nat.lt_or_ge w 15 with c | c
    · exact (letI : Lane := ⟨0⟩; leafR (.cons (.int ..) (.cons (rg a (by omega)) (.cons (.int ..) .nil))) r15_3)
    · exact (letI : Lane := ⟨0⟩; leafR (.cons (.int ..) (.cons (rg c (by omega)) (.cons (.int ..) .nil))) r15_6)
  · rcases Nat.lt_or_ge w 15 with c | c
    · rcases Nat.lt_or_ge (w + m) 15 with d | d
      · exact leafE a b d r15_4
      · exact leafF a c d hm r15_5
    · exact (letI : Lane := ⟨0⟩; leafR (.cons (.int ..) (.cons (rg c (by omega)) (.cons (rg b (by omega)) .nil))) r15_7)
theorem all16 {w m : Nat} (hw : w < 101) (hm : m < 101) : Ok (.ofNat 16) (.ofNat w) (.ofNat m) := by
  rcases Nat.eq_zero_or_pos w with a | a <;> rcases Nat.eq_zero_or_pos m with b | b
  · subst a; subst b; exact (letI : Lane := ⟨0⟩; leafR (.cons (.int ..) (.cons (.int ..) (.cons (.int ..) .nil))) r16_0)
  · subst a; rcases Nat.lt_or_ge m 16 with c | c
    · exact (letI : Lane := ⟨0⟩; leafR (.cons (.int ..) (.cons (.int ..) (.cons (rg b (by omega)) .nil))) r16_1)
    · exact (letI : Lane := ⟨0⟩; leafR (.cons (.int ..) (.cons (.int ..) (.cons (rg c (by omega)) .nil))) r16_2)
  · subst b; rcases Nat.lt_or_ge w 16 with c | c
    · exact (letI : Lane := ⟨0⟩; leafR (.cons (.int ..) (.cons (rg a (by omega)) (.cons (.int ..) .nil))) r16_3)
    · exact (letI : Lane := ⟨0⟩; leafR (.cons (.int ..) (.cons (rg c (by omega)) (.cons (.int ..) .nil))) r16_6)
  · rcases Nat.lt_or_ge w 16 with c | c
    · rcases Nat.lt_or_ge (w + m) 16 with d | d
      · exact leafE a b d r16_4
      · exact leafF a c d hm r16_5
    · exact (letI : Lane := ⟨0⟩; leafR (.cons (.int ..) (.cons (rg c (by omega)) (.cons (rg b (by omega)) .nil))) r16_7)
theorem all17 {w m : Nat} (hw : w < 101) (hm : m < 101) : Ok (.ofNat 17) (.ofNat w) (.ofNat m) := by
  rcases Nat.eq_zero_or_pos w with a | a <;> rcases Nat.eq_zero_or_pos m with b | b
  · subst a; subst b; exact (letI : Lane := ⟨0⟩; leafR (.cons (.int ..) (.cons (.int ..) (.cons (.int ..) .nil))) r17_0)
  · subst a; rcases Nat.lt_or_ge m 17 with c | c
    · exact (letI : Lane := ⟨0⟩; leafR (.cons (.int ..) (.cons (.int ..) (.cons (rg b (by omega)) .nil))) r17_1)
    · exact (letI : Lane := ⟨0⟩; leafR (.cons (.int ..) (.cons (.int ..) (.cons (rg c (by omega)) .nil))) r17_2)
  · subst b; rcases Nat.lt_or_ge w 17 with c | c
    · exact (letI : Lane := ⟨0⟩; leafR (.cons (.int ..) (.cons (rg a (by omega)) (.cons (.int ..) .nil))) r17_3)
    · exact (letI : Lane := ⟨0⟩; leafR (.cons (.int ..) (.cons (rg c (by omega)) (.cons (.int ..) .nil))) r17_6)
  · rcases Nat.lt_or_ge w 17 with c | c
    · rcases Nat.lt_or_ge (w + m) 17 with d | d
      · exact leafE a b d r17_4
      · exact leafF a c d hm r17_5
    · exact (letI : Lane := ⟨0⟩; leafR (.cons (.int ..) (.cons (rg c (by omega)) (.cons (rg b (by omega)) .nil))) r17_7)
theorem all18 {w m : Nat} (hw : w < 101) (hm : m < 101) : Ok (.ofNat 18) (.ofNat w) (.ofNat m) := by
  rcases Nat.eq_zero_or_pos w with a | a <;> rcases Nat.eq_zero_or_pos m with b | b
  · subst a; subst b; exact (letI : Lane := ⟨0⟩; leafR (.cons (.int ..) (.cons (.int ..) (.cons (.int ..) .nil))) r18_0)
  · subst a; rcases Nat.lt_or_ge m 18 with c | c
    · exact (letI : Lane := ⟨0⟩; leafR (.cons (.int ..) (.cons (.int ..) (.cons (rg b (by omega)) .nil))) r18_1)
    · exact (letI : Lane := ⟨0⟩; leafR (.cons (.int ..) (.cons (.int ..) (.cons (rg c (by omega)) .nil))) r18_2)
  · subst b; rcases Nat.lt_or_ge w 18 with c | c
    · exact (letI : Lane := ⟨0⟩; leafR (.cons (.int ..) (.cons (rg a (by omega)) (.cons (.int ..) .nil))) r18_3)
    · exact (letI : Lane := ⟨0⟩; leafR (.cons (.int ..) (.cons (rg c (by omega)) (.cons (.int ..) .nil))) r18_6)
  · rcases Nat.lt_or_ge w 18 with c | c
    · rcases Nat.lt_or_ge (w + m) 18 with d | d
      · exact leafE a b d r18_4
      · exact leafF a c d hm r18_5
    · exact (letI : Lane := ⟨0⟩; leafR (.cons (.int ..) (.cons (rg c (by omega)) (.cons (rg b (by omega)) .nil))) r18_7)
theorem all19 {w m : Nat} (hw : w < 101) (hm : m < 101) : Ok (.ofNat 19) (.ofNat w) (.ofNat m) := by
  rcases Nat.eq_zero_or_pos w with a | a <;> rcases Nat.eq_zero_or_pos m with b | b
  · subst a; subst b; exact (letI : Lane := ⟨0⟩; leafR (.cons (.int ..) (.cons (.int ..) (.cons (.int ..) .nil))) r19_0)
  · subst a; rcases Nat.lt_or_ge m 19 with c | c
    · exact (letI : Lane := ⟨0⟩; leafR (.cons (.int ..) (.cons (.int ..) (.cons (rg b (by omega)) .nil))) r19_1)
    · exact (letI : Lane := ⟨0⟩; leafR (.cons (.int ..) (.cons (.int ..) (.cons (rg c (by omega)) .nil))) r19_2)
  · subst b; rcases Nat.lt_or_ge w 19 with c | c
    · exact (letI : Lane := ⟨0⟩; leafR (.cons (.int ..) (.cons (rg a (by omega)) (.cons (.int ..) .nil))) r19_3)
    · exact (letI : Lane := ⟨0⟩; leafR (.cons (.int ..) (.cons (rg c (by omega)) (.cons (.int ..) .nil))) r19_6)
  · rcases Nat.lt_or_ge w 19 with c | c
    · rcases Nat.lt_or_ge (w + m) 19 with d | d
      · exact leafE a b d r19_4
      · exact leafF a c d hm r19_5
    · exact (letI : Lane := ⟨0⟩; leafR (.cons (.int ..) (.cons (rg c (by omega)) (.cons (rg b (by omega)) .nil))) r19_7)
theorem all20 {w m : Nat} (hw : w < 101) (hm : m < 101) : Ok (.ofNat 20) (.ofNat w) (.ofNat m) := by
  rcases Nat.eq_zero_or_pos w with a | a <;> rcases Nat.eq_zero_or_pos m with b | b
  · subst a; subst b; exact (letI : Lane := ⟨0⟩; leafR (.cons (.int ..) (.cons (.int ..) (.cons (.int ..) .nil))) r20_0)
  · subst a; rcases Nat.lt_or_ge m 20 with c | c
    · exact (letI : Lane := ⟨0⟩; leafR (.cons (.int ..) (.cons (.int ..) (.cons (rg b (by omega)) .nil))) r20_1)
    · exact (letI : Lane := ⟨0⟩; leafR (.cons (.int ..) (.cons (.int ..) (.cons (rg c (by omega)) .nil))) r20_2)
  · subst b; rcases Nat.lt_or_ge w 20 with c | c
    · exact (letI : Lane := ⟨0⟩; leafR (.cons (.int ..) (.cons (rg a (by omega)) (.cons (.int ..) .nil))) r20_3)
    · exact (letI : Lane := ⟨0⟩; leafR (.cons (.int ..) (.cons (rg c (by omega)) (.cons (.int ..) .nil))) r20_6)
  · rcases Nat.lt_or_ge w 20 with c | c
    · rcases Nat.lt_or_ge (w + m) 20 with d | d
      · exact leafE a b d r20_4
      · exact leafF a c d hm r20_5
    · exact (letI : Lane := ⟨0⟩; leafR (.cons (.int ..) (.cons (rg c (by omega)) (.cons (rg b (by omega)) .nil))) r20_7)
theorem all21 {w m : Nat} (hw : w < 101) (hm : m < 101) : Ok (.ofNat 21) (.ofNat w) (.ofNat m) := by
  rcases Nat.eq_zero_or_pos w with a | a <;> rcases Nat.eq_zero_or_pos m with b | b
  · subst a; subst b; exact (letI : Lane := ⟨0⟩; leafR (.cons (.int ..) (.cons (.int ..) (.cons (.int ..) .nil))) r21_0)
  · subst a; rcases Nat.lt_or_ge m 21 with c | c
    · exact (letI : Lane := ⟨0⟩; leafR (.cons (.int ..) (.cons (.int ..) (.cons (rg b (by omega)) .nil))) r21_1)
    · exact (letI : Lane := ⟨0⟩; leafR (.cons (.int ..) (.cons (.int ..) (.cons (rg c (by omega)) .nil))) r21_2)
  · subst b; rcases Nat.lt_or_ge w 21 with c | c
    · exact (letI : Lane := ⟨0⟩; leafR (.cons (.int ..) (.cons (rg a (by omega)) (.cons (.int ..) .nil))) r21_3)
    · exact (letI : Lane := ⟨0⟩; leafR (.cons (.int ..) (.cons (rg c (by omega)) (.cons (.int ..) .nil))) r21_6)
  · rcases Nat.lt_or_ge w 21 with c | c
    · rcases Nat.lt_or_ge (w + m) 21 with d | d
      · exact leafE a b d r21_4
      · exact leafF a c d hm r21_5
    · exact (letI : Lane := ⟨0⟩; leafR (.cons (.int ..) (.cons (rg c (by omega)) (.cons (rg b (by omega)) .nil))) r21_7)
theorem all22 {w m : Nat} (hw : w < 101) (hm : m < 101) : Ok (.ofNat 22) (.ofNat w) (.ofNat m) := by
  rcases Nat.eq_zero_or_pos w with a | a <;> rcases Nat.eq_zero_or_pos m with b | b
  · subst a; subst b; exact (letI : Lane := ⟨0⟩; leafR (.cons (.int ..) (.cons (.int ..) (.cons (.int ..) .nil))) r22_0)
  · subst a; rcases Nat.lt_or_ge m 22 with c | c
    · exact (letI : Lane := ⟨0⟩; leafR (.cons (.int ..) (.cons (.int ..) (.cons (rg b (by omega)) .nil))) r22_1)
    · exact (letI : Lane := ⟨0⟩; leafR (.cons (.int ..) (.cons (.int ..) (.cons (rg c (by omega)) .nil))) r22_2)
  · subst b; rcases Nat.lt_or_ge w 22 with c | c
    · exact (letI : Lane := ⟨0⟩; leafR (.cons (.int ..) (.cons (rg a (by omega)) (.cons (.int ..) .nil))) r22_3)
    · exact (letI : Lane := ⟨0⟩; leafR (.cons (.int ..) (.cons (rg c (by omega)) (.cons (.int ..) .nil))) r22_6)
  · rcases Nat.lt_or_ge w 22 with c | c
    · rcases Nat.lt_or_ge (w + m) 22 with d | d
      · exact leafE a b d r22_4
      · exact leafF a c d hm r22_5
    · exact (letI : Lane := ⟨0⟩; leafR (.cons (.int ..) (.cons (rg c (by omega)) (.cons (rg b (by omega)) .nil))) r22_7)
theorem all23 {w m : Nat} (hw : w < 101) (hm : m < 101) : Ok (.ofNat 23) (.ofNat w) (.ofNat m) := by
  rcases Nat.eq_zero_or_pos w with a | a <;> rcases Nat.eq_zero_or_pos m with b | b
  · subst a; subst b; exact (letI : Lane := ⟨0⟩; leafR (.cons (.int ..) (.cons (.int ..) (.cons (.int ..) .nil))) r23_0)
  · subst a; rcases Nat.lt_or_ge m 23 with c | c
    · exact (letI : Lane := ⟨0⟩; leafR (.cons (.int ..) (.cons (.int ..) (.cons (rg b (by omega)) .nil))) r23_1)
    · exact (letI : Lane := ⟨0⟩; leafR (.cons (.int ..) (.cons (.int ..) (.cons (rg c (by omega)) .nil))) r23_2)
  · subst b; rcases Nat.lt_or_ge w 23 with c | c
    · exact (letI : Lane := ⟨0⟩; leafR (.cons (.int ..) (.cons (rg a (by omega)) (.cons (.int ..) .nil))) r23_3)
    · exact (letI : Lane := ⟨0⟩; leafR (.cons (.int ..) (.cons (rg c (by omega)) (.cons (.int ..) .nil))) r23_6)
  · rcases Nat.lt_or_ge w 23 with c | c
    · rcases Nat.lt_or_ge (w + m) 23 with d | d
      · exact leafE a b d r23_4
      · exact leafF a c d hm r23_5
    · exact (letI : Lane := ⟨0⟩; leafR (.cons (.int ..) (.cons (rg c (by omega)) (.cons (rg b (by omega)) .nil))) r23_7)
theorem all24 {w m : Nat} (hw : w < 101) (hm : m < 101) : Ok (.ofNat 24) (.ofNat w) (.ofNat m) := by
  rcases Nat.eq_zero_or_pos w with a | a <;> rcases Nat.eq_zero_or_pos m with b | b
  · subst a; subst b; exact (letI : Lane := ⟨0⟩; leafR (.cons (.int ..) (.cons (.int ..) (.cons (.int ..) .nil))) r24_0)
  · subst a; rcases Nat.lt_or_ge m 24 with c | c
    · exact (letI : Lane := ⟨0⟩; leafR (.cons (.int ..) (.cons (.int ..) (.cons (rg b (by omega)) .nil))) r24_1)
    · exact (letI : Lane := ⟨0⟩; leafR (.cons (.int ..) (.cons (.int ..) (.cons (rg c (by omega)) .nil))) r24_2)
  · subst b; rcases Nat.lt_or_ge w 24 with c | c
    · exact (letI : Lane := ⟨0⟩; leafR (.cons (.int ..) (.cons (rg a (by omega)) (.cons (.int ..) .nil))) r24_3)
    · exact (letI : Lane := ⟨0⟩; leafR (.cons (.int ..) (.cons (rg c (by omega)) (.cons (.int ..) .nil))) r24_6)
  · rcases Nat.lt_or_ge w 24 with c | c
    · rcases Nat.lt_or_ge (w + m) 24 with d | d
      · exact leafE a b d r24_4
      · exact leafF a c d hm r24_5
    · exact (letI : Lane := ⟨0⟩; leafR (.cons (.int ..) (.cons (rg c (by omega)) (.cons (rg b (by omega)) .nil))) r24_7)
theorem all25 {w m : Nat} (hw : w < 101) (hm : m < 101) : Ok (.ofNat 25) (.ofNat w) (.ofNat m) := by
  rcases Nat.eq_zero_or_pos w with a | a <;> rcases Nat.eq_zero_or_pos m with b | b
  · subst a; subst b; exact (letI : Lane := ⟨0⟩; leafR (.cons (.int ..) (.cons (.int ..) (.cons (.int ..) .nil))) r25_0)
  · subst a; rcases Nat.lt_or_ge m 25 with c | c
    · exact (letI : Lane := ⟨0⟩; leafR (.cons (.int ..) (.cons (.int ..) (.cons (rg b (by omega)) .nil))) r25_1)
    · exact (letI : Lane := ⟨0⟩; leafR (.cons (.int ..) (.cons (.int ..) (.cons (rg c (by omega)) .nil))) r25_2)
  · subst b; rcases Nat.lt_or_ge w 25 with c | c
    · exact (letI : Lane := ⟨0⟩; leafR (.cons (.int ..) (.cons (rg a (by omega)) (.cons (.int ..) .nil))) r25_3)
    · exact (letI : Lane := ⟨0⟩; leafR (.cons (.int ..) (.cons (rg c (by omega)) (.cons (.int ..) .nil))) r25_6)
  · rcases Nat.lt_or_ge w 25 with c | c
    · rcases Nat.lt_or_ge (w + m) 25 with d | d
      · exact leafE a b d r25_4
      · exact leafF a c d hm r25_5
    · exact (letI : Lane := ⟨0⟩; leafR (.cons (.int ..) (.cons (rg c (by omega)) (.cons (rg b (by omega)) .nil))) r25_7)
theorem all26 {w m : Nat} (hw : w < 101) (hm : m < 101) : Ok (.ofNat 26) (.ofNat w) (.ofNat m) := by
  rcases Nat.eq_zero_or_pos w with a | a <;> rcases Nat.eq_zero_or_pos m with b | b
  · subst a; subst b; exact (letI : Lane := ⟨0⟩; leafR (.cons (.int ..) (.cons (.int ..) (.cons (.int ..) .nil))) r26_0)
  · subst a; rcases Nat.lt_or_ge m 26 with c | c
    · exact (letI : Lane := ⟨0⟩; leafR (.cons (.int ..) (.cons (.int ..) (.cons (rg b (by omega)) .nil))) r26_1)
    · exact (letI : Lane := ⟨0⟩; leafR (.cons (.int ..) (.cons (.int ..) (.cons (rg c (by omega)) .nil))) r26_2)
  · subst b; rcases Nat.lt_or_ge w 26 with c | c
    · exact (letI : Lane := ⟨0⟩; leafR (.cons (.int ..) (.cons (rg a (by omega)) (.cons (.int ..) .nil))) r26_3)
    · exact (letI : Lane := ⟨0⟩; leafR (.cons (.int ..) (.cons (rg c (by omega)) (.cons (.int ..) .nil))) r26_6)
  · rcases Nat.lt_or_ge w 26 with c | c
    · rcases Nat.lt_or_ge (w + m) 26 with d | d
      · exact leafE a b d r26_4
      · exact leafF a c d hm r26_5
    · exact (letI : Lane := ⟨0⟩; leafR (.cons (.int ..) (.cons (rg c (by omega)) (.cons (rg b (by omega)) .nil))) r26_7)
theorem all27 {w m : Nat} (hw : w < 101) (hm : m < 101) : Ok (.ofNat 27) (.ofNat w) (.ofNat m) := by
  rcases Nat.eq_zero_or_pos w with a | a <;> rcases Nat.eq_zero_or_pos m with b | b
  · subst a; subst b; exact (letI : Lane := ⟨0⟩; leafR (.cons (.int ..) (.cons (.int ..) (.cons (.int ..) .nil))) r27_0)
  · subst a; rcases Nat.lt_or_ge m 27 with c | c
    · exact (letI : Lane := ⟨0⟩; leafR (.cons (.int ..) (.cons (.int ..) (.cons (rg b (by omega)) .nil))) r27_1)
    · exact (letI : Lane := ⟨0⟩; leafR (.cons (.int ..) (.cons (.int ..) (.cons (rg c (by omega)) .nil))) r27_2)
  · subst b; rcases Nat.lt_or_ge w 27 with c | c
    · exact (letI : Lane := ⟨0⟩; leafR (.cons (.int ..) (.cons (rg a (by omega)) (.cons (.int ..) .nil))) r27_3)
    · exact (letI : Lane := ⟨0⟩; leafR (.cons (.int ..) (.cons (rg c (by omega)) (.cons (.int ..) .nil))) r27_6)
  · rcases Nat.lt_or_ge w 27 with c | c
    · rcases Nat.lt_or_ge (w + m) 27 with d | d
      · exact leafE a b d r27_4
      · exact leafF a c d hm r27_5
    · exact (letI : Lane := ⟨0⟩; leafR (.cons (.int ..) (.cons (rg c (by omega)) (.cons (rg b (by omega)) .nil))) r27_7)
theorem all28 {w m : Nat} (hw : w < 101) (hm : m < 101) : Ok (.ofNat 28) (.ofNat w) (.ofNat m) := by
  rcases Nat.eq_zero_or_pos w with a | a <;> rcases Nat.eq_zero_or_pos m with b | b
  · subst a; subst b; exact (letI : Lane := ⟨0⟩; leafR (.cons (.int ..) (.cons (.int ..) (.cons (.int ..) .nil))) r28_0)
  · subst a; rcases Nat.lt_or_ge m 28 with c | c
    · exact (letI : Lane := ⟨0⟩; leafR (.cons (.int ..) (.cons (.int ..) (.cons (rg b (by omega)) .nil))) r28_1)
    · exact (letI : Lane := ⟨0⟩; leafR (.cons (.int ..) (.cons (.int ..) (.cons (rg c (by omega)) .nil))) r28_2)
  · subst b; rcases Nat.lt_or_ge w 28 with c | c
    · exact (letI : Lane := ⟨0⟩; leafR (.cons (.int ..) (.cons (rg a (by omega)) (.cons (.int ..) .nil))) r28_3)
    · exact (letI : Lane := ⟨0⟩; leafR (.cons (.int ..) (.cons (rg c (by omega)) (.cons (.int ..) .nil))) r28_6)
  · rcases Nat.lt_or_ge w 28 with c | c
    · rcases Nat.lt_or_ge (w + m) 28 with d | d
      · exact leafE a b d r28_4
      · exact leafF a c d hm r28_5
    · exact (letI : Lane := ⟨0⟩; leafR (.cons (.int ..) (.cons (rg c (by omega)) (.cons (rg b (by omega)) .nil))) r28_7)
theorem all29 {w m : Nat} (hw : w < 101) (hm : m < 101) : Ok (.ofNat 29) (.ofNat w) (.ofNat m) := by
  rcases Nat.eq_zero_or_pos w with a | a <;> rcases Nat.eq_zero_or_pos m with b | b
  · subst a; subst b; exact (letI : Lane := ⟨0⟩; leafR (.cons (.int ..) (.cons (.int ..) (.cons (.int ..) .nil))) r29_0)
  · subst a; rcases Nat.lt_or_ge m 29 with c | c
    · exact (letI : Lane := ⟨0⟩; leafR (.cons (.int ..) (.cons (.int ..) (.cons (rg b (by omega)) .nil))) r29_1)
    · exact (letI : Lane := ⟨0⟩; leafR (.cons (.int ..) (.cons (.int ..) (.cons (rg c (by omega)) .nil))) r29_2)
  · subst b; rcases Nat.lt_or_ge w 29 with c | c
    · exact (letI : Lane := ⟨0⟩; leafR (.cons (.int ..) (.cons (rg a (by omega)) (.cons (.int ..) .nil))) r29_3)
    · exact (letI : Lane := ⟨0⟩; leafR (.cons (.int ..) (.cons (rg c (by omega)) (.cons (.int ..) .nil))) r29_6)
  · rcases Nat.lt_or_ge w 29 with c | c
    · rcases Nat.lt_or_ge (w + m) 29 with d | d
      · exact leafE a b d r29_4
      · exact leafF a c d hm r29_5
    · exact (letI : Lane := ⟨0⟩; leafR (.cons (.int ..) (.cons (rg c (by omega)) (.cons (rg b (by omega)) .nil))) r29_7)
theorem all30 {w m : Nat} (hw : w < 101) (hm : m < 101) : Ok (.ofNat 30) (.ofNat w) (.ofNat m) := by
  rcases Nat.eq_zero_or_pos w with a | a <;> rcases Nat.eq_zero_or_pos m with b | b
  · subst a; subst b; exact (letI : Lane := ⟨0⟩; leafR (.cons (.int ..) (.cons (.int ..) (.cons (.int ..) .nil))) r30_0)
  · subst a; rcases Nat.lt_or_ge m 30 with c | c
    · exact (letI : Lane := ⟨0⟩; leafR (.cons (.int ..) (.cons (.int ..) (.cons (rg b (by omega)) .nil))) r30_1)
    · exact (letI : Lane := ⟨0⟩; leafR (.cons (.int ..) (.cons (.int ..) (.cons (rg c (by omega)) .nil))) r30_2)
  · subst b; rcases Nat.lt_or_ge w 30 with c | c
    · exact (letI : Lane := ⟨0⟩; leafR (.cons (.int ..) (.cons (rg a (by omega)) (.cons (.int ..) .nil))) r30_3)
    · exact (letI : Lane := ⟨0⟩; leafR (.cons (.int ..) (.cons (rg c (by omega)) (.cons (.int ..) .nil))) r30_6)
  · rcases Nat.lt_or_ge w 30 with c | c
    · rcases Nat.lt_or_ge (w + m) 30 with d | d
      · exact leafE a b d r30_4
      · exact leafF a c d hm r30_5
    · exact (letI : Lane := ⟨0⟩; leafR (.cons (.int ..) (.cons (rg c (by omega)) (.cons (rg b (by omega)) .nil))) r30_7)
theorem all31 {w m : Nat} (hw : w < 101) (hm : m < 101) : Ok (.ofNat 31) (.ofNat w) (.ofNat m) := by
  rcases Nat.eq_zero_or_pos w with a | a <;> rcases Nat.eq_zero_or_pos m with b | b
  · subst a; subst b; exact (letI : Lane := ⟨0⟩; leafR (.cons (.int ..) (.cons (.int ..) (.cons (.int ..) .nil))) r31_0)
  · subst a; rcases Nat.lt_or_ge m 31 with c | c
    · exact (letI : Lane := ⟨0⟩; leafR (.cons (.int ..) (.cons (.int ..) (.cons (rg b (by omega)) .nil))) r31_1)
    · exact (letI : Lane := ⟨0⟩; leafR (.cons (.int ..) (.cons (.int ..) (.cons (rg c (by omega)) .nil))) r31_2)
  · subst b; rcases Nat.lt_or_ge w 31 with c | c
    · exact (letI : Lane := ⟨0⟩; leafR (.cons (.int ..) (.cons (rg a (by omega)) (.cons (.int ..) .nil))) r31_3)
    · exact (letI : Lane := ⟨0⟩; leafR (.cons (.int ..) (.cons (rg c (by omega)) (.cons (.int ..) .nil))) r31_6)
  · rcases Nat.lt_or_ge w 31 with c | c
    · rcases Nat.lt_or_ge (w + m) 31 with d | d
      · exact leafE a b d r31_4
      · exact leafF a c d hm r31_5
    · exact (letI : Lane := ⟨0⟩; leafR (.cons (.int ..) (.cons (rg c (by omega)) (.cons (rg b (by omega)) .nil))) r31_7)
theorem all32 {w m : Nat} (hw : w < 101) (hm : m < 101) : Ok (.ofNat 32) (.ofNat w) (.ofNat m) := by
  rcases Nat.eq_zero_or_pos w with a | a <;> rcases Nat.eq_zero_or_pos m with b | b
  · subst a; subst b; exact (letI : Lane := ⟨0⟩; leafR (.cons (.int ..) (.cons (.int ..) (.cons (.int ..) .nil))) r32_0)
  · subst a; rcases Nat.lt_or_ge m 32 with c | c
    · exact (letI : Lane := ⟨0⟩; leafR (.cons (.int ..) (.cons (.int ..) (.cons (rg b (by omega)) .nil))) r32_1)
    · exact (letI : Lane := ⟨0⟩; leafR (.cons (.int ..) (.cons (.int ..) (.cons (rg c (by omega)) .nil))) r32_2)
  · subst b; rcases Nat.lt_or_ge w 32 with c | c
    · exact (letI : Lane := ⟨0⟩; leafR (.cons (.int ..) (.cons (rg a (by omega)) (.cons (.int ..) .nil))) r32_3)
    · exact (letI : Lane := ⟨0⟩; leafR (.cons (.int ..) (.cons (rg c (by omega)) (.cons (.int ..) .nil))) r32_6)
  · rcases Nat.lt_or_ge w 32 with c | c
    · rcases Nat.lt_or_ge (w + m) 32 with d | d
      · exact leafE a b d r32_4
      · exact leafF a c d hm r32_5
    · exact (letI : Lane := ⟨0⟩; leafR (.cons (.int ..) (.cons (rg c (by omega)) (.cons (rg b (by omega)) .nil))) r32_7)
theorem all33 {w m : Nat} (hw : w < 101) (hm : m < 101) : Ok (.ofNat 33) (.ofNat w) (.ofNat m) := by
  rcases Nat.eq_zero_or_pos w with a | a <;> rcases Nat.eq_zero_or_pos m with b | b
  · subst a; subst b; exact (letI : Lane := ⟨0⟩; leafR (.cons (.int ..) (.cons (.int ..) (.cons (.int ..) .nil))) r33_0)
  · subst a; rcases Nat.lt_or_ge m 33 with c | c
    · exact (letI : Lane := ⟨0⟩; leafR (.cons (.int ..) (.cons (.int ..) (.cons (rg b (by omega)) .nil))) r33_1)
    · exact (letI : Lane := ⟨0⟩; leafR (.cons (.int ..) (.cons (.int ..) (.cons (rg c (by omega)) .nil))) r33_2)
  · subst b; rcases Nat.lt_or_ge w 33 with c | c
    · exact (letI : Lane := ⟨0⟩; leafR (.cons (.int ..) (.cons (rg a (by omega)) (.cons (.int ..) .nil))) r33_3)
    · exact (letI : Lane := ⟨0⟩; leafR (.cons (.int ..) (.cons (rg c (by omega)) (.cons (.int ..) .nil))) r33_6)
  · rcases Nat.lt_or_ge w 33 with c | c
    · rcases Nat.lt_or_ge (w + m) 33 with d | d
      · exact leafE a b d r33_4
      · exact leafF a c d hm r33_5
    · exact (letI : Lane := ⟨0⟩; leafR (.cons (.int ..) (.cons (rg c (by omega)) (.cons (rg b (by omega)) .nil))) r33_7)
theorem all34 {w m : Nat} (hw : w < 101) (hm : m < 101) : Ok (.ofNat 34) (.ofNat w) (.ofNat m) := by
  rcases Nat.eq_zero_or_pos w with a | a <;> rcases Nat.eq_zero_or_pos m with b | b
  · subst a; subst b; exact (letI : Lane := ⟨0⟩; leafR (.cons (.int ..) (.cons (.int ..) (.cons (.int ..) .nil))) r34_0)
  · subst a; rcases Nat.lt_or_ge m 34 with c | c
    · exact (letI : Lane := ⟨0⟩; leafR (.cons (.int ..) (.cons (.int ..) (.cons (rg b (by omega)) .nil))) r34_1)
    · exact (letI : Lane := ⟨0⟩; leafR (.cons (.int ..) (.cons (.int ..) (.cons (rg c (by omega)) .nil))) r34_2)
  · subst b; rcases Nat.lt_or_ge w 34 with c | c
    · exact (letI : Lane := ⟨0⟩; leafR (.cons (.int ..) (.cons (rg a (by omega)) (.cons (.int ..) .nil))) r34_3)
    · exact (letI : Lane := ⟨0⟩; leafR (.cons (.int ..) (.cons (rg c (by omega)) (.cons (.int ..) .nil))) r34_6)
  · rcases Nat.lt_or_ge w 34 with c | c
    · rcases Nat.lt_or_ge (w + m) 34 with d | d
      · exact leafE a b d r34_4
      · exact leafF a c d hm r34_5
    · exact (letI : Lane := ⟨0⟩; leafR (.cons (.int ..) (.cons (rg c (by omega)) (.cons (rg b (by omega)) .nil))) r34_7)
theorem all35 {w m : Nat} (hw : w < 101) (hm : m < 101) : Ok (.ofNat 35) (.ofNat w) (.ofNat m) := by
  rcases Nat.eq_zero_or_pos w with a | a <;> rcases Nat.eq_zero_or_pos m with b | b
  · subst a; subst b; exact (letI : Lane := ⟨0⟩; leafR (.cons (.int ..) (.cons (.int ..) (.cons (.int ..) .nil))) r35_0)
  · subst a; rcases Nat.lt_or_ge m 35 with c | c
    · exact (letI : Lane := ⟨0⟩; leafR (.cons (.int ..) (.cons (.int ..) (.cons (rg b (by omega)) .nil))) r35_1)
    · exact (letI : Lane := ⟨0⟩; leafR (.cons (.int ..) (.cons (.int ..) (.cons (rg c (by omega)) .nil))) r35_2)
  · subst b; rcases Nat.lt_or_ge w 35 with c | c
    · exact (letI : Lane := ⟨0⟩; leafR (.cons (.int ..) (.cons (rg a (by omega)) (.cons (.int ..) .nil))) r35_3)
    · exact (letI : Lane := ⟨0⟩; leafR (.cons (.int ..) (.cons (rg c (by omega)) (.cons (.int ..) .nil))) r35_6)
  · rcases Nat.lt_or_ge w 35 with c | c
    · rcases Nat.lt_or_ge (w + m) 35 with d | d
      · exact leafE a b d r35_4
      · exact leafF a c d hm r35_5
    · exact (letI : Lane := ⟨0⟩; leafR (.cons (.int ..) (.cons (rg c (by omega)) (.cons (rg b (by omega)) .nil))) r35_7)
theorem all36 {w m : Nat} (hw : w < 101) (hm : m < 101) : Ok (.ofNat 36) (.ofNat w) (.ofNat m) := by
  rcases Nat.eq_zero_or_pos w with a | a <;> rcases Nat.eq_zero_or_pos m with b | b
  · subst a; subst b; exact (letI : Lane := ⟨0⟩; leafR (.cons (.int ..) (.cons (.int ..) (.cons (.int ..) .nil))) r36_0)
  · subst a; rcases Nat.lt_or_ge m 36 with c | c
    · exact (letI : Lane := ⟨0⟩; leafR (.cons (.int ..) (.cons (.int ..) (.cons (rg b (by omega)) .nil))) r36_1)
    · exact (letI : Lane := ⟨0⟩; leafR (.cons (.int ..) (.cons (.int ..) (.cons (rg c (by omega)) .nil))) r36_2)
  · subst b; rcases Nat.lt_or_ge w 36 with c | c
    · exact (letI : Lane := ⟨0⟩; leafR (.cons (.int ..) (.cons (rg a (by omega)) (.cons (.int ..) .nil))) r36_3)
    · exact (letI : Lane := ⟨0⟩; leafR (.cons (.int ..) (.cons (rg c (by omega)) (.cons (.int ..) .nil))) r36_6)
  · rcases Nat.lt_or_ge w 36 with c | c
    · rcases Nat.lt_or_ge (w + m) 36 with d | d
      · exact leafE a b d r36_4
      · exact leafF a c d hm r36_5
    · exact (letI : Lane := ⟨0⟩; leafR (.cons (.int ..) (.cons (rg c (by omega)) (.cons (rg b (by omega)) .nil))) r36_7)
theorem all37 {w m : Nat} (hw : w < 101) (hm : m < 101) : Ok (.ofNat 37) (.ofNat w) (.ofNat m) := by
  rcases Nat.eq_zero_or_pos w with a | a <;> rcases Nat.eq_zero_or_pos m with b | b
  · subst a; subst b; exact (letI : Lane := ⟨0⟩; leafR (.cons (.int ..) (.cons (.int ..) (.cons (.int ..) .nil))) r37_0)
  · subst a; rcases Nat.lt_or_ge m 37 with c | c
    · exact (letI : Lane := ⟨0⟩; leafR (.cons (.int ..) (.cons (.int ..) (.cons (rg b (by omega)) .nil))) r37_1)
    · exact (letI : Lane := ⟨0⟩; leafR (.cons (.int ..) (.cons (.int ..) (.cons (rg c (by omega)) .nil))) r37_2)
  · subst b; rcases Nat.lt_or_ge w 37 with c | c
    · exact (letI : Lane := ⟨0⟩; leafR (.cons (.int ..) (.cons (rg a (by omega)) (.cons (.int ..) .nil))) r37_3)
    · exact (letI : Lane := ⟨0⟩; leafR (.cons (.int ..) (.cons (rg c (by omega)) (.cons (.int ..) .nil))) r37_6)
  · rcases Nat.lt_or_ge w 37 with c | c
    · rcases Nat.lt_or_ge (w + m) 37 with d | d
      · exact leafE a b d r37_4
      · exact leafF a c d hm r37_5
    · exact (letI : Lane := ⟨0⟩; leafR (.cons (.int ..) (.cons (rg c (by omega)) (.cons (rg b (by omega)) .nil))) r37_7)
theorem all38 {w m : Nat} (hw : w < 101) (hm : m < 101) : Ok (.ofNat 38) (.ofNat w) (.ofNat m) := by
  rcases Nat.eq_zero_or_pos w with a | a <;> rcases Nat.eq_zero_or_pos m with b | b
  · subst a; subst b; exact (letI : Lane := ⟨0⟩; leafR (.cons (.int ..) (.cons (.int ..) (.cons (.int ..) .nil))) r38_0)
  · subst a; rcases Nat.lt_or_ge m 38 with c | c
    · exact (letI : Lane := ⟨0⟩; leafR (.cons (.int ..) (.cons (.int ..) (.cons (rg b (by omega)) .nil))) r38_1)
    · exact (letI : Lane := ⟨0⟩; leafR (.cons (.int ..) (.cons (.int ..) (.cons (rg c (by omega)) .nil))) r38_2)
  · subst b; rcases Nat.lt_or_ge w 38 with c | c
    · exact (letI : Lane := ⟨0⟩; leafR (.cons (.int ..) (.cons (rg a (by omega)) (.cons (.int ..) .nil))) r38_3)
    · exact (letI : Lane := ⟨0⟩; leafR (.cons (.int ..) (.cons (rg c (by omega)) (.cons (.int ..) .nil))) r38_6)
  · rcases Nat.lt_or_ge w 38 with c | c
    · rcases Nat.lt_or_ge (w + m) 38 with d | d
      · exact leafE a b d r38_4
      · exact leafF a c d hm r38_5
    · exact (letI : Lane := ⟨0⟩; leafR (.cons (.int ..) (.cons (rg c (by omega)) (.cons (rg b (by omega)) .nil))) r38_7)
theorem all39 {w m : Nat} (hw : w < 101) (hm : m < 101) : Ok (.ofNat 39) (.ofNat w) (.ofNat m) := by
  rcases Nat.eq_zero_or_pos w with a | a <;> rcases Nat.eq_zero_or_pos m with b | b
  · subst a; subst b; exact (letI : Lane := ⟨0⟩; leafR (.cons (.int ..) (.cons (.int ..) (.cons (.int ..) .nil))) r39_0)
  · subst a; rcases Nat.lt_or_ge m 39 with c | c
    · exact (letI : Lane := ⟨0⟩; leafR (.cons (.int ..) (.cons (.int ..) (.cons (rg b (by omega)) .nil))) r39_1)
    · exact (letI : Lane := ⟨0⟩; leafR (.cons (.int ..) (.cons (.int ..) (.cons (rg c (by omega)) .nil))) r39_2)
  · subst b; rcases Nat.lt_or_ge w 39 with c | c
    · exact (letI : Lane := ⟨0⟩; leafR (.cons (.int ..) (.cons (rg a (by omega)) (.cons (.int ..) .nil))) r39_3)
    · exact (letI : Lane := ⟨0⟩; leafR (.cons (.int ..) (.cons (rg c (by omega)) (.cons (.int ..) .nil))) r39_6)
  · rcases Nat.lt_or_ge w 39 with c | c
    · rcases Nat.lt_or_ge (w + m) 39 with d | d
      · exact leafE a b d r39_4
      · exact leafF a c d hm r39_5
    · exact (letI : Lane := ⟨0⟩; leafR (.cons (.int ..) (.cons (rg c (by omega)) (.cons (rg b (by omega)) .nil))) r39_7)
theorem all40 {w m : Nat} (hw : w < 101) (hm : m < 101) : Ok (.ofNat 40) (.ofNat w) (.ofNat m) := by
  rcases Nat.eq_zero_or_pos w with a | a <;> rcases Nat.eq_zero_or_pos m with b | b
  · subst a; subst b; exact (letI : Lane := ⟨0⟩; leafR (.cons (.int ..) (.cons (.int ..) (.cons (.int ..) .nil))) r40_0)
  · subst a; rcases Nat.lt_or_ge m 40 with c | c
    · exact (letI : Lane := ⟨0⟩; leafR (.cons (.int ..) (.cons (.int ..) (.cons (rg b (by omega)) .nil))) r40_1)
    · exact (letI : Lane := ⟨0⟩; leafR (.cons (.int ..) (.cons (.int ..) (.cons (rg c (by omega)) .nil))) r40_2)
  · subst b; rcases Nat.lt_or_ge w 40 with c | c
    · exact (letI : Lane := ⟨0⟩; leafR (.cons (.int ..) (.cons (rg a (by omega)) (.cons (.int ..) .nil))) r40_3)
    · exact (letI : Lane := ⟨0⟩; leafR (.cons (.int ..) (.cons (rg c (by omega)) (.cons (.int ..) .nil))) r40_6)
  · rcases Nat.lt_or_ge w 40 with c | c
    · rcases Nat.lt_or_ge (w + m) 40 with d | d
      · exact leafE a b d r40_4
      · exact leafF a c d hm r40_5
    · exact (letI : Lane := ⟨0⟩; leafR (.cons (.int ..) (.cons (rg c (by omega)) (.cons (rg b (by omega)) .nil))) r40_7)
theorem all41 {w m : Nat} (hw : w < 101) (hm : m < 101) : Ok (.ofNat 41) (.ofNat w) (.ofNat m) := by
  rcases Nat.eq_zero_or_pos w with a | a <;> rcases Nat.eq_zero_or_pos m with b | b
  · subst a; subst b; exact (letI : Lane := ⟨0⟩; leafR (.cons (.int ..) (.cons (.int ..) (.cons (.int ..) .nil))) r41_0)
  · subst a; rcases Nat.lt_or_ge m 41 with c | c
    · exact (letI : Lane := ⟨0⟩; leafR (.cons (.int ..) (.cons (.int ..) (.cons (rg b (by omega)) .nil))) r41_1)
    · exact (letI : Lane := ⟨0⟩; leafR (.cons (.int ..) (.cons (.int ..) (.cons (rg c (by omega)) .nil))) r41_2)
  · subst b; rcases Nat.lt_or_ge w 41 with c | c
    · exact (letI : Lane := ⟨0⟩; leafR (.cons (.int ..) (.cons (rg a (by omega)) (.cons (.int ..) .nil))) r41_3)
    · exact (letI : Lane := ⟨0⟩; leafR (.cons (.int ..) (.cons (rg c (by omega)) (.cons (.int ..) .nil))) r41_6)
  · rcases Nat.lt_or_ge w 41 with c | c
    · rcases Nat.lt_or_ge (w + m) 41 with d | d
      · exact leafE a b d r41_4
      · exact leafF a c d hm r41_5
    · exact (letI : Lane := ⟨0⟩; leafR (.cons (.int ..) (.cons (rg c (by omega)) (.cons (rg b (by omega)) .nil))) r41_7)
theorem all42 {w m : Nat} (hw : w < 101) (hm : m < 101) : Ok (.ofNat 42) (.ofNat w) (.ofNat m) := by
  rcases Nat.eq_zero_or_pos w with a | a <;> rcases Nat.eq_zero_or_pos m with b | b
  · subst a; subst b; exact (letI : Lane := ⟨0⟩; leafR (.cons (.int ..) (.cons (.int ..) (.cons (.int ..) .nil))) r42_0)
  · subst a; rcases Nat.lt_or_ge m 42 with c | c
    · exact (letI : Lane := ⟨0⟩; leafR (.cons (.int ..) (.cons (.int ..) (.cons (rg b (by omega)) .nil))) r42_1)
    · exact (letI : Lane := ⟨0⟩; leafR (.cons (.int ..) (.cons (.int ..) (.cons (rg c (by omega)) .nil))) r42_2)
  · subst b; rcases Nat.lt_or_ge w 42 with c | c
    · exact (letI : Lane := ⟨0⟩; leafR (.cons (.int ..) (.cons (rg a (by omega)) (.cons (.int ..) .nil))) r42_3)
    · exact (letI : Lane := ⟨0⟩; leafR (.cons (.int ..) (.cons (rg c (by omega)) (.cons (.int ..) .nil))) r42_6)
  · rcases Nat.lt_or_ge w 42 with c | c
    · rcases Nat.lt_or_ge (w + m) 42 with d | d
      · exact leafE a b d r42_4
      · exact leafF a c d hm r42_5
    · exact (letI : Lane := ⟨0⟩; leafR (.cons (.int ..) (.cons (rg c (by omega)) (.cons (rg b (by omega)) .nil))) r42_7)
theorem all43 {w m : Nat} (hw : w < 101) (hm : m < 101) : Ok (.ofNat 43) (.ofNat w) (.ofNat m) := by
  rcases Nat.eq_zero_or_pos w with a | a <;> rcases Nat.eq_zero_or_pos m with b | b
  · subst a; subst b; exact (letI : Lane := ⟨0⟩; leafR (.cons (.int ..) (.cons (.int ..) (.cons (.int ..) .nil))) r43_0)
  · subst a; rcases Nat.lt_or_ge m 43 with c | c
    · exact (letI : Lane := ⟨0⟩; leafR (.cons (.int ..) (.cons (.int ..) (.cons (rg b (by omega)) .nil))) r43_1)
    · exact (letI : Lane := ⟨0⟩; leafR (.cons (.int ..) (.cons (.int ..) (.cons (rg c (by omega)) .nil))) r43_2)
  · subst b; rcases Nat.lt_or_ge w 43 with c | c
    · exact (letI : Lane := ⟨0⟩; leafR (.cons (.int ..) (.cons (rg a (by omega)) (.cons (.int ..) .nil))) r43_3)
    · exact (letI : Lane := ⟨0⟩; leafR (.cons (.int ..) (.cons (rg c (by omega)) (.cons (.int ..) .nil))) r43_6)
  · rcases Nat.lt_or_ge w 43 with c | c
    · rcases Nat.lt_or_ge (w + m) 43 with d | d
      · exact leafE a b d r43_4
      · exact leafF a c d hm r43_5
    · exact (letI : Lane := ⟨0⟩; leafR (.cons (.int ..) (.cons (rg c (by omega)) (.cons (rg b (by omega)) .nil))) r43_7)
theorem all44 {w m : Nat} (hw : w < 101) (hm : m < 101) : Ok (.ofNat 44) (.ofNat w) (.ofNat m) := by
  rcases Nat.eq_zero_or_pos w with a | a <;> rcases Nat.eq_zero_or_pos m with b | b
  · subst a; subst b; exact (letI : Lane := ⟨0⟩; leafR (.cons (.int ..) (.cons (.int ..) (.cons (.int ..) .nil))) r44_0)
  · subst a; rcases Nat.lt_or_ge m 44 with c | c
    · exact (letI : Lane := ⟨0⟩; leafR (.cons (.int ..) (.cons (.int ..) (.cons (rg b (by omega)) .nil))) r44_1)
    · exact (letI : Lane := ⟨0⟩; leafR (.cons (.int ..) (.cons (.int ..) (.cons (rg c (by omega)) .nil))) r44_2)
  · subst b; rcases Nat.lt_or_ge w 44 with c | c
    · exact (letI : Lane := ⟨0⟩; leafR (.cons (.int ..) (.cons (rg a (by omega)) (.cons (.int ..) .nil))) r44_3)
    · exact (letI : Lane := ⟨0⟩; leafR (.cons (.int ..) (.cons (rg c (by omega)) (.cons (.int ..) .nil))) r44_6)
  · rcases Nat.lt_or_ge w 44 with c | c
    · rcases Nat.lt_or_ge (w + m) 44 with d | d
      · exact leafE a b d r44_4
      · exact leafF a c d hm r44_5
    · exact (letI : Lane := ⟨0⟩; leafR (.cons (.int ..) (.cons (rg c (by omega)) (.cons (rg b (by omega)) .nil))) r44_7)
theorem all45 {w m : Nat} (hw : w < 101) (hm : m < 101) : Ok (.ofNat 45) (.ofNat w) (.ofNat m) := by
  rcases Nat.eq_zero_or_pos w with a | a <;> rcases Nat.eq_zero_or_pos m with b | b
  · subst a; subst b; exact (letI : Lane := ⟨0⟩; leafR (.cons (.int ..) (.cons (.int ..) (.cons (.int ..) .nil))) r45_0)
  · subst a; rcases Nat.lt_or_ge m 45 with c | c
    · exact (letI : Lane := ⟨0⟩; leafR (.cons (.int ..) (.cons (.int ..) (.cons (rg b (by omega)) .nil))) r45_1)
    · exact (letI : Lane := ⟨0⟩; leafR (.cons (.int ..) (.cons (.int ..) (.cons (rg c (by omega)) .nil))) r45_2)
  · subst b; rcases Nat.lt_or_ge w 45 with c | c
    · exact (letI : Lane := ⟨0⟩; leafR (.cons (.int ..) (.cons (rg a (by omega)) (.cons (.int ..) .nil))) r45_3)
    · exact (letI : Lane := ⟨0⟩; leafR (.cons (.int ..) (.cons (rg c (by omega)) (.cons (.int ..) .nil))) r45_6)
  · rcases Nat.lt_or_ge w 45 with c | c
    · rcases Nat.lt_or_ge (w + m) 45 with d | d
      · exact leafE a b d r45_4
      · exact leafF a c d hm r45_5
    · exact (letI : Lane := ⟨0⟩; leafR (.cons (.int ..) (.cons (rg c (by omega)) (.cons (rg b (by omega)) .nil))) r45_7)
theorem all46 {w m : Nat} (hw : w < 101) (hm : m < 101) : Ok (.ofNat 46) (.ofNat w) (.ofNat m) := by
  rcases Nat.eq_zero_or_pos w with a | a <;> rcases Nat.eq_zero_or_pos m with b | b
  · subst a; subst b; exact (letI : Lane := ⟨0⟩; leafR (.cons (.int ..) (.cons (.int ..) (.cons (.int ..) .nil))) r46_0)
  · subst a; rcases Nat.lt_or_ge m 46 with c | c
    · exact (letI : Lane := ⟨0⟩; leafR (.cons (.int ..) (.cons (.int ..) (.cons (rg b (by omega)) .nil))) r46_1)
    · exact (letI : Lane := ⟨0⟩; leafR (.cons (.int ..) (.cons (.int ..) (.cons (rg c (by omega)) .nil))) r46_2)
  · subst b; rcases Nat.lt_or_ge w 46 with c | c
    · exact (letI : Lane := ⟨0⟩; leafR (.cons (.int ..) (.cons (rg a (by omega)) (.cons (.int ..) .nil))) r46_3)
    · exact (letI : Lane := ⟨0⟩; leafR (.cons (.int ..) (.cons (rg c (by omega)) (.cons (.int ..) .nil))) r46_6)
  · rcases Nat.lt_or_ge w 46 with c | c
    · rcases Nat.lt_or_ge (w + m) 46 with d | d
      · exact leafE a b d r46_4
      · exact leafF a c d hm r46_5
    · exact (letI : Lane := ⟨0⟩; leafR (.cons (.int ..) (.cons (rg c (by omega)) (.cons (rg b (by omega)) .nil))) r46_7)
theorem all47 {w m : Nat} (hw : w < 101) (hm : m < 101) : Ok (.ofNat 47) (.ofNat w) (.ofNat m) := by
  rcases Nat.eq_zero_or_pos w with a | a <;> rcases Nat.eq_zero_or_pos m with b | b
  · subst a; subst b; exact (letI : Lane := ⟨0⟩; leafR (.cons (.int ..) (.cons (.int ..) (.cons (.int ..) .nil))) r47_0)
  · subst a; rcases Nat.lt_or_ge m 47 with c | c
    · exact (letI : Lane := ⟨0⟩; leafR (.cons (.int ..) (.cons (.int ..) (.cons (rg b (by omega)) .nil))) r47_1)
    · exact (letI : Lane := ⟨0⟩; leafR (.cons (.int ..) (.cons (.int ..) (.cons (rg c (by omega)) .nil))) r47_2)
  · subst b; rcases Nat.lt_or_ge w 47 with c | c
    · exact (letI : Lane := ⟨0⟩; leafR (.cons (.int ..) (.cons (rg a (by omega)) (.cons (.int ..) .nil))) r47_3)
    · exact (letI : Lane := ⟨0⟩; leafR (.cons (.int ..) (.cons (rg c (by omega)) (.cons (.int ..) .nil))) r47_6)
  · rcases Nat.lt_or_ge w 47 with c | c
    · rcases Nat.lt_or_ge (w + m) 47 with d | d
      · exact leafE a b d r47_4
      · exact leafF a c d hm r47_5
    · exact (letI : Lane := ⟨0⟩; leafR (.cons (.int ..) (.cons (rg c (by omega)) (.cons (rg b (by omega)) .nil))) r47_7)
theorem all48 {w m : Nat} (hw : w < 101) (hm : m < 101) : Ok (.ofNat 48) (.ofNat w) (.ofNat m) := by
  rcases Nat.eq_zero_or_pos w with a | a <;> rcases Nat.eq_zero_or_pos m with b | b
  · subst a; subst b; exact (letI : Lane := ⟨0⟩; leafR (.cons (.int ..) (.cons (.int ..) (.cons (.int ..) .nil))) r48_0)
  · subst a; rcases Nat.lt_or_ge m 48 with c | c
    · exact (letI : Lane := ⟨0⟩; leafR (.cons (.int ..) (.cons (.int ..) (.cons (rg b (by omega)) .nil))) r48_1)
    · exact (letI : Lane := ⟨0⟩; leafR (.cons (.int ..) (.cons (.int ..) (.cons (rg c (by omega)) .nil))) r48_2)
  · subst b; rcases Nat.lt_or_ge w 48 with c | c
    · exact (letI : Lane := ⟨0⟩; leafR (.cons (.int ..) (.cons (rg a (by omega)) (.cons (.int ..) .nil))) r48_3)
    · exact (letI : Lane := ⟨0⟩; leafR (.cons (.int ..) (.cons (rg c (by omega)) (.cons (.int ..) .nil))) r48_6)
  · rcases Nat.lt_or_ge w 48 with c | c
    · rcases Nat.lt_or_ge (w + m) 48 with d | d
      · exact leafE a b d r48_4
      · exact leafF a c d hm r48_5
    · exact (letI : Lane := ⟨0⟩; leafR (.cons (.int ..) (.cons (rg c (by omega)) (.cons (rg b (by omega)) .nil))) r48_7)
theorem all49 {w m : Nat} (hw : w < 101) (hm : m < 101) : Ok (.ofNat 49) (.ofNat w) (.ofNat m) := by
  rcases Nat.eq_zero_or_pos w with a | a <;> rcases Nat.eq_zero_or_pos m with b | b
  · subst a; subst b; exact (letI : Lane := ⟨0⟩; leafR (.cons (.int ..) (.cons (.int ..) (.cons (.int ..) .nil))) r49_0)
  · subst a; rcases Nat.lt_or_ge m 49 with c | c
    · exact (letI : Lane := ⟨0⟩; leafR (.cons (.int ..) (.cons (.int ..) (.cons (rg b (by omega)) .nil))) r49_1)
    · exact (letI : Lane := ⟨0⟩; leafR (.cons (.int ..) (.cons (.int ..) (.cons (rg c (by omega)) .nil))) r49_2)
  · subst b; rcases Nat.lt_or_ge w 49 with c | c
    · exact (letI : Lane := ⟨0⟩; leafR (.cons (.int ..) (.cons (rg a (by omega)) (.cons (.int ..) .nil))) r49_3)
    · exact (letI : Lane := ⟨0⟩; leafR (.cons (.int ..) (.cons (rg c (by omega)) (.cons (.int ..) .nil))) r49_6)
  · rcases Nat.lt_or_ge w 49 with c | c
    · rcases Nat.lt_or_ge (w + m) 49 with d | d
      · exact leafE a b d r49_4
      · exact leafF a c d hm r49_5
    · exact (letI : Lane := ⟨0⟩; leafR (.cons (.int ..) (.cons (rg c (by omega)) (.cons (rg b (by omega)) .nil))) r49_7)
theorem all50 {w m : Nat} (hw : w < 101) (hm : m < 101) : Ok (.ofNat 50) (.ofNat w) (.ofNat m) := by
  rcases Nat.eq_zero_or_pos w with a | a <;> rcases Nat.eq_zero_or_pos m with b | b
  · subst a; subst b; exact (letI : Lane := ⟨0⟩; leafR (.cons (.int ..) (.cons (.int ..) (.cons (.int ..) .nil))) r50_0)
  · subst a; rcases Nat.lt_or_ge m 50 with c | c
    · exact (letI : Lane := ⟨0⟩; leafR (.cons (.int ..) (.cons (.int ..) (.cons (rg b (by omega)) .nil))) r50_1)
    · exact (letI : Lane := ⟨0⟩; leafR (.cons (.int ..) (.cons (.int ..) (.cons (rg c (by omega)) .nil))) r50_2)
  · subst b; rcases Nat.lt_or_ge w 50 with c | c
    · exact (letI : Lane := ⟨0⟩; leafR (.cons (.int ..) (.cons (rg a (by omega)) (.cons (.int ..) .nil))) r50_3)
    · exact (letI : Lane := ⟨0⟩; leafR (.cons (.int ..) (.cons (rg c (by omega)) (.cons (.int ..) .nil))) r50_6)
  · rcases Nat.lt_or_ge w 50 with c | c
    · rcases Nat.lt_or_ge (w + m) 50 with d | d
      · exact leafE a b d r50_4
      · exact leafF a c d hm r50_5
    · exact (letI : Lane := ⟨0⟩; leafR (.cons (.int ..) (.cons (rg c (by omega)) (.cons (rg b (by omega)) .nil))) r50_7)
theorem all51 {w m : Nat} (hw : w < 101) (hm : m < 101) : Ok (.ofNat 51) (.ofNat w) (.ofNat m) := by
  rcases Nat.eq_zero_or_pos w with a | a <;> rcases Nat.eq_zero_or_pos m with b | b
  · subst a; subst b; exact (letI : Lane := ⟨0⟩; leafR (.cons (.int ..) (.cons (.int ..) (.cons (.int ..) .nil))) r51_0)
  · subst a; rcases Nat.lt_or_ge m 51 with c | c
    · exact (letI : Lane := ⟨0⟩; leafR (.cons (.int ..) (.cons (.int ..) (.cons (rg b (by omega)) .nil))) r51_1)
    · exact (letI : Lane := ⟨0⟩; leafR (.cons (.int ..) (.cons (.int ..) (.cons (rg c (by omega)) .nil))) r51_2)
  · subst b; rcases Nat.lt_or_ge w 51 with c | c
    · exact (letI : Lane := ⟨0⟩; leafR (.cons (.int ..) (.cons (rg a (by omega)) (.cons (.int ..) .nil))) r51_3)
    · exact (letI : Lane := ⟨0⟩; leafR (.cons (.int ..) (.cons (rg c (by omega)) (.cons (.int ..) .nil))) r51_6)
  · rcases Nat.lt_or_ge w 51 with c | c
    · rcases Nat.lt_or_ge (w + m) 51 with d | d
      · exact leafE a b d r51_4
      · exact leafF a c d hm r51_5
    · exact (letI : Lane := ⟨0⟩; leafR (.cons (.int ..) (.cons (rg c (by omega)) (.cons (rg b (by omega)) .nil))) r51_7)
theorem all52 {w m : Nat} (hw : w < 101) (hm : m < 101) : Ok (.ofNat 52) (.ofNat w) (.ofNat m) := by
  rcases Nat.eq_zero_or_pos w with a | a <;> rcases Nat.eq_zero_or_pos m with b | b
  · subst a; subst b; exact (letI : Lane := ⟨0⟩; leafR (.cons (.int ..) (.cons (.int ..) (.cons (.int ..) .nil))) r52_0)
  · subst a; rcases Nat.lt_or_ge m 52 with c | c
    · exact (letI : Lane := ⟨0⟩; leafR (.cons (.int ..) (.cons (.int ..) (.cons (rg b (by omega)) .nil))) r52_1)
    · exact (letI : Lane := ⟨0⟩; leafR (.cons (.int ..) (.cons (.int ..) (.cons (rg c (by omega)) .nil))) r52_2)
  · subst b; rcases Nat.lt_or_ge w 52 with c | c
    · exact (letI : Lane := ⟨0⟩; leafR (.cons (.int ..) (.cons (rg a (by omega)) (.cons (.int ..) .nil))) r52_3)
    · exact (letI : Lane := ⟨0⟩; leafR (.cons (.int ..) (.cons (rg c (by omega)) (.cons (.int ..) .nil))) r52_6)
  · rcases Nat.lt_or_ge w 52 with c | c
    · rcases Nat.lt_or_ge (w + m) 52 with d | d
      · exact leafE a b d r52_4
      · exact leafF a c d hm r52_5
    · exact (letI : Lane := ⟨0⟩; leafR (.cons (.int ..) (.cons (rg c (by omega)) (.cons (rg b (by omega)) .nil))) r52_7)
theorem all53 {w m : Nat} (hw : w < 101) (hm : m < 101) : Ok (.ofNat 53) (.ofNat w) (.ofNat m) := by
  rcases Nat.eq_zero_or_pos w with a | a <;> rcases Nat.eq_zero_or_pos m with b | b
  · subst a; subst b; exact (letI : Lane := ⟨0⟩; leafR (.cons (.int ..) (.cons (.int ..) (.cons (.int ..) .nil))) r53_0)
  · subst a; rcases Nat.lt_or_ge m 53 with c | c
    · exact (letI : Lane := ⟨0⟩; leafR (.cons (.int ..) (.cons (.int ..) (.cons (rg b (by omega)) .nil))) r53_1)
    · exact (letI : Lane := ⟨0⟩; leafR (.cons (.int ..) (.cons (.int ..) (.cons (rg c (by omega)) .nil))) r53_2)
  · subst b; rcases Nat.lt_or_ge w 53 with c | c
    · exact (letI : Lane := ⟨0⟩; leafR (.cons (.int ..) (.cons (rg a (by omega)) (.cons (.int ..) .nil))) r53_3)
    · exact (letI : Lane := ⟨0⟩; leafR (.cons (.int ..) (.cons (rg c (by omega)) (.cons (.int ..) .nil))) r53_6)
  · rcases Nat.lt_or_ge w 53 with c | c
    · rcases Nat.lt_or_ge (w + m) 53 with d | d
      · exact leafE a b d r53_4
      · exact leafF a c d hm r53_5
    · exact (letI : Lane := ⟨0⟩; leafR (.cons (.int ..) (.cons (rg c (by omega)) (.cons (rg b (by omega)) .nil))) r53_7)
theorem all54 {w m : Nat} (hw : w < 101) (hm : m < 101) : Ok (.ofNat 54) (.ofNat w) (.ofNat m) := by
  rcases Nat.eq_zero_or_pos w with a | a <;> rcases Nat.eq_zero_or_pos m with b | b
  · subst a; subst b; exact (letI : Lane := ⟨0⟩; leafR (.cons (.int ..) (.cons (.int ..) (.cons (.int ..) .nil))) r54_0)
  · subst a; rcases Nat.lt_or_ge m 54 with c | c
    · exact (letI : Lane := ⟨0⟩; leafR (.cons (.int ..) (.cons (.int ..) (.cons (rg b (by omega)) .nil))) r54_1)
    · exact (letI : Lane := ⟨0⟩; leafR (.cons (.int ..) (.cons (.int ..) (.cons (rg c (by omega)) .nil))) r54_2)
  · subst b; rcases Nat.lt_or_ge w 54 with c | c
    · exact (letI : Lane := ⟨0⟩; leafR (.cons (.int ..) (.cons (rg a (by omega)) (.cons (.int ..) .nil))) r54_3)
    · exact (letI : Lane := ⟨0⟩; leafR (.cons (.int ..) (.cons (rg c (by omega)) (.cons (.int ..) .nil))) r54_6)
  · rcases Nat.lt_or_ge w 54 with c | c
    · rcases Nat.lt_or_ge (w + m) 54 with d | d
      · exact leafE a b d r54_4
      · exact leafF a c d hm r54_5
    · exact (letI : Lane := ⟨0⟩; leafR (.cons (.int ..) (.cons (rg c (by omega)) (.cons (rg b (by omega)) .nil))) r54_7)
theorem all55 {w m : Nat} (hw : w < 101) (hm : m < 101) : Ok (.ofNat 55) (.ofNat w) (.ofNat m) := by
  rcases Nat.eq_zero_or_pos w with a | a <;> rcases Nat.eq_zero_or_pos m with b | b
  · subst a; subst b; exact (letI : Lane := ⟨0⟩; leafR (.cons (.int ..) (.cons (.int ..) (.cons (.int ..) .nil))) r55_0)
  · subst a; rcases Nat.lt_or_ge m 55 with c | c
    · exact (letI : Lane := ⟨0⟩; leafR (.cons (.int ..) (.cons (.int ..) (.cons (rg b (by omega)) .nil))) r55_1)
    · exact (letI : Lane := ⟨0⟩; leafR (.cons (.int ..) (.cons (.int ..) (.cons (rg c (by omega)) .nil))) r55_2)
  · subst b; rcases Nat.lt_or_ge w 55 with c | c
    · exact (letI : Lane := ⟨0⟩; leafR (.cons (.int ..) (.cons (rg a (by omega)) (.cons (.int ..) .nil))) r55_3)
    · exact (letI : Lane := ⟨0⟩; leafR (.cons (.int ..) (.cons (rg c (by omega)) (.cons (.int ..) .nil))) r55_6)
  · rcases Nat.lt_or_ge w 55 with c | c
    · rcases Nat.lt_or_ge (w + m) 55 with d | d
      · exact leafE a b d r55_4
      · exact leafF a c d hm r55_5
    · exact (letI : Lane := ⟨0⟩; leafR (.cons (.int ..) (.cons (rg c (by omega)) (.cons (rg b (by omega)) .nil))) r55_7)
theorem all56 {w m : Nat} (hw : w < 101) (hm : m < 101) : Ok (.ofNat 56) (.ofNat w) (.ofNat m) := by
  rcases Nat.eq_zero_or_pos w with a | a <;> rcases Nat.eq_zero_or_pos m with b | b
  · subst a; subst b; exact (letI : Lane := ⟨0⟩; leafR (.cons (.int ..) (.cons (.int ..) (.cons (.int ..) .nil))) r56_0)
  · subst a; rcases Nat.lt_or_ge m 56 with c | c
    · exact (letI : Lane := ⟨0⟩; leafR (.cons (.int ..) (.cons (.int ..) (.cons (rg b (by omega)) .nil))) r56_1)
    · exact (letI : Lane := ⟨0⟩; leafR (.cons (.int ..) (.cons (.int ..) (.cons (rg c (by omega)) .nil))) r56_2)
  · subst b; rcases Nat.lt_or_ge w 56 with c | c
    · exact (letI : Lane := ⟨0⟩; leafR (.cons (.int ..) (.cons (rg a (by omega)) (.cons (.int ..) .nil))) r56_3)
    · exact (letI : Lane := ⟨0⟩; leafR (.cons (.int ..) (.cons (rg c (by omega)) (.cons (.int ..) .nil))) r56_6)
  · rcases Nat.lt_or_ge w 56 with c | c
    · rcases Nat.lt_or_ge (w + m) 56 with d | d
      · exact leafE a b d r56_4
      · exact leafF a c d hm r56_5
    · exact (letI : Lane := ⟨0⟩; leafR (.cons (.int ..) (.cons (rg c (by omega)) (.cons (rg b (by omega)) .nil))) r56_7)
theorem all57 {w m : Nat} (hw : w < 101) (hm : m < 101) : Ok (.ofNat 57) (.ofNat w) (.ofNat m) := by
  rcases Nat.eq_zero_or_pos w with a | a <;> rcases Nat.eq_zero_or_pos m with b | b
  · subst a; subst b; exact (letI : Lane := ⟨0⟩; leafR (.cons (.int ..) (.cons (.int ..) (.cons (.int ..) .nil))) r57_0)
  · subst a; rcases Nat.lt_or_ge m 57 with c | c
    · exact (letI : Lane := ⟨0⟩; leafR (.cons (.int ..) (.cons (.int ..) (.cons (rg b (by omega)) .nil))) r57_1)
    · exact (letI : Lane := ⟨0⟩; leafR (.cons (.int ..) (.cons (.int ..) (.cons (rg c (by omega)) .nil))) r57_2)
  · subst b; rcases Nat.lt_or_ge w 57 with c | c
    · exact (letI : Lane := ⟨0⟩; leafR (.cons (.int ..) (.cons (rg a (by omega)) (.cons (.int ..) .nil))) r57_3)
    · exact (letI : Lane := ⟨0⟩; leafR (.cons (.int ..) (.cons (rg c (by omega)) (.cons (.int ..) .nil))) r57_6)
  · rcases Nat.lt_or_ge w 57 with c | c
    · rcases Nat.lt_or_ge (w + m) 57 with d | d
      · exact leafE a b d r57_4
      · exact leafF a c d hm r57_5
    · exact (letI : Lane := ⟨0⟩; leafR (.cons (.int ..) (.cons (rg c (by omega)) (.cons (rg b (by omega)) .nil))) r57_7)
theorem all58 {w m : Nat} (hw : w < 101) (hm : m < 101) : Ok (.ofNat 58) (.ofNat w) (.ofNat m) := by
  rcases Nat.eq_zero_or_pos w with a | a <;> rcases Nat.eq_zero_or_pos m with b | b
  · subst a; subst b; exact (letI : Lane := ⟨0⟩; leafR (.cons (.int ..) (.cons (.int ..) (.cons (.int ..) .nil))) r58_0)
  · subst a; rcases Nat.lt_or_ge m 58 with c | c
    · exact (letI : Lane := ⟨0⟩; leafR (.cons (.int ..) (.cons (.int ..) (.cons (rg b (by omega)) .nil))) r58_1)
    · exact (letI : Lane := ⟨0⟩; leafR (.cons (.int ..) (.cons (.int ..) (.cons (rg c (by omega)) .nil))) r58_2)
  · subst b; rcases Nat.lt_or_ge w 58 with c | c
    · exact (letI : Lane := ⟨0⟩; leafR (.cons (.int ..) (.cons (rg a (by omega)) (.cons (.int ..) .nil))) r58_3)
    · exact (letI : Lane := ⟨0⟩; leafR (.cons (.int ..) (.cons (rg c (by omega)) (.cons (.int ..) .nil))) r58_6)
  · rcases Nat.lt_or_ge w 58 with c | c
    · rcases Nat.lt_or_ge (w + m) 58 with d | d
      · exact leafE a b d r58_4
      · exact leafF a c d hm r58_5
    · exact (letI : Lane := ⟨0⟩; leafR (.cons (.int ..) (.cons (rg c (by omega)) (.cons (rg b (by omega)) .nil))) r58_7)
theorem all59 {w m : Nat} (hw : w < 101) (hm : m < 101) : Ok (.ofNat 59) (.ofNat w) (.ofNat m) := by
  rcases Nat.eq_zero_or_pos w with a | a <;> rcases Nat.eq_zero_or_pos m with b | b
  · subst a; subst b; exact (letI : Lane := ⟨0⟩; leafR (.cons (.int ..) (.cons (.int ..) (.cons (.int ..) .nil))) r59_0)
  · subst a; rcases Nat.lt_or_ge m 59 with c | c
    · exact (letI : Lane := ⟨0⟩; leafR (.cons (.int ..) (.cons (.int ..) (.cons (rg b (by omega)) .nil))) r59_1)
    · exact (letI : Lane := ⟨0⟩; leafR (.cons (.int ..) (.cons (.int ..) (.cons (rg c (by omega)) .nil))) r59_2)
  · subst b; rcases Nat.lt_or_ge w 59 with c | c
    · exact (letI : Lane := ⟨0⟩; leafR (.cons (.int ..) (.cons (rg a (by omega)) (.cons (.int ..) .nil))) r59_3)
    · exact (letI : Lane := ⟨0⟩; leafR (.cons (.int ..) (.cons (rg c (by omega)) (.cons (.int ..) .nil))) r59_6)
  · rcases Nat.lt_or_ge w 59 with c | c
    · rcases Nat.lt_or_ge (w + m) 59 with d | d
      · exact leafE a b d r59_4
      · exact leafF a c d hm r59_5
    · exact (letI : Lane := ⟨0⟩; leafR (.cons (.int ..) (.cons (rg c (by omega)) (.cons (rg b (by omega)) .nil))) r59_7)
theorem all60 {w m : Nat} (hw : w < 101) (hm : m < 101) : Ok (.ofNat 60) (.ofNat w) (.ofNat m) := by
  rcases Nat.eq_zero_or_pos w with a | a <;> rcases Nat.eq_zero_or_pos m with b | b
  · subst a; subst b; exact (letI : Lane := ⟨0⟩; leafR (.cons (.int ..) (.cons (.int ..) (.cons (.int ..) .nil))) r60_0)
  · subst a; rcases Nat.lt_or_ge m 60 with c | c
    · exact (letI : Lane := ⟨0⟩; leafR (.cons (.int ..) (.cons (.int ..) (.cons (rg b (by omega)) .nil))) r60_1)
    · exact (letI : Lane := ⟨0⟩; leafR (.cons (.int ..) (.cons (.int ..) (.cons (rg c (by omega)) .nil))) r60_2)
  · subst b; rcases Nat.lt_or_ge w 60 with c | c
    · exact (letI : Lane := ⟨0⟩; leafR (.cons (.int ..) (.cons (rg a (by omega)) (.cons (.int ..) .nil))) r60_3)
    · exact (letI : Lane := ⟨0⟩; leafR (.cons (.int ..) (.cons (rg c (by omega)) (.cons (.int ..) .nil))) r60_6)
  · rcases Nat.lt_or_ge w 60 with c | c
    · rcases Nat.lt_or_ge (w + m) 60 with d | d
      · exact leafE a b d r60_4
      · exact leafF a c d hm r60_5
    · exact (letI : Lane := ⟨0⟩; leafR (.cons (.int ..) (.cons (rg c (by omega)) (.cons (rg b (by omega)) .nil))) r60_7)
theorem all61 {w m : Nat} (hw : w < 101) (hm : m < 101) : Ok (.ofNat 61) (.ofNat w) (.ofNat m) := by
  rcases Nat.eq_zero_or_pos w with a | a <;> rcases Nat.eq_zero_or_pos m with b | b
  · subst a; subst b; exact (letI : Lane := ⟨0⟩; leafR (.cons (.int ..) (.cons (.int ..) (.cons (.int ..) .nil))) r61_0)
  · subst a; rcases Nat.lt_or_ge m 61 with c | c
    · exact (letI : Lane := ⟨0⟩; leafR (.cons (.int ..) (.cons (.int ..) (.cons (rg b (by omega)) .nil))) r61_1)
    · exact (letI : Lane := ⟨0⟩; leafR (.cons (.int ..) (.cons (.int ..) (.cons (rg c (by omega)) .nil))) r61_2)
  · subst b; rcases Nat.lt_or_ge w 61 with c | c
    · exact (letI : Lane := ⟨0⟩; leafR (.cons (.int ..) (.cons (rg a (by omega)) (.cons (.int ..) .nil))) r61_3)
    · exact (letI : Lane := ⟨0⟩; leafR (.cons (.int ..) (.cons (rg c (by omega)) (.cons (.int ..) .nil))) r61_6)
  · rcases Nat.lt_or_ge w 61 with c | c
    · rcases Nat.lt_or_ge (w + m) 61 with d | d
      · exact leafE a b d r61_4
      · exact leafF a c d hm r61_5
    · exact (letI : Lane := ⟨0⟩; leafR (.cons (.int ..) (.cons (rg c (by omega)) (.cons (rg b (by omega)) .nil))) r61_7)
theorem all62 {w m : Nat} (hw : w < 101) (hm : m < 101) : Ok (.ofNat 62) (.ofNat w) (.ofNat m) := by
  rcases Nat.eq_zero_or_pos w with a | a <;> rcases Nat.eq_zero_or_pos m with b | b
  · subst a; subst b; exact (letI : Lane := ⟨0⟩; leafR (.cons (.int ..) (.cons (.int ..) (.cons (.int ..) .nil))) r62_0)
  · subst a; rcases Nat.lt_or_ge m 62 with c | c
    · exact (letI : Lane := ⟨0⟩; leafR (.cons (.int ..) (.cons (.int ..) (.cons (rg b (by omega)) .nil))) r62_1)
    · exact (letI : Lane := ⟨0⟩; leafR (.cons (.int ..) (.cons (.int ..) (.cons (rg c (by omega)) .nil))) r62_2)
  · subst b; rcases Nat.lt_or_ge w 62 with c | c
    · exact (letI : Lane := ⟨0⟩; leafR (.cons (.int ..) (.cons (rg a (by omega)) (.cons (.int ..) .nil))) r62_3)
    · exact (letI : Lane := ⟨0⟩; leafR (.cons (.int ..) (.cons (rg c (by omega)) (.cons (.int ..) .nil))) r62_6)
  · rcases Nat.lt_or_ge w 62 with c | c
    · rcases Nat.lt_or_ge (w + m) 62 with d | d
      · exact leafE a b d r62_4
      · exact leafF a c d hm r62_5
    · exact (letI : Lane := ⟨0⟩; leafR (.cons (.int ..) (.cons (rg c (by omega)) (.cons (rg b (by omega)) .nil))) r62_7)
theorem all63 {w m : Nat} (hw : w < 101) (hm : m < 101) : Ok (.ofNat 63) (.ofNat w) (.ofNat m) := by
  rcases Nat.eq_zero_or_pos w with a | a <;> rcases Nat.eq_zero_or_pos m with b | b
  · subst a; subst b; exact (letI : Lane := ⟨0⟩; leafR (.cons (.int ..) (.cons (.int ..) (.cons (.int ..) .nil))) r63_0)
  · subst a; rcases Nat.lt_or_ge m 63 with c | c
    · exact (letI : Lane := ⟨0⟩; leafR (.cons (.int ..) (.cons (.int ..) (.cons (rg b (by omega)) .nil))) r63_1)
    · exact (letI : Lane := ⟨0⟩; leafR (.cons (.int ..) (.cons (.int ..) (.cons (rg c (by omega)) .nil))) r63_2)
  · subst b; rcases Nat.lt_or_ge w 63 with c | c
    · exact (letI : Lane := ⟨0⟩; leafR (.cons (.int ..) (.cons (rg a (by omega)) (.cons (.int ..) .nil))) r63_3)
    · exact (letI : Lane := ⟨0⟩; leafR (.cons (.int ..) (.cons (rg c (by omega)) (.cons (.int ..) .nil))) r63_6)
  · rcases Nat.lt_or_ge w 63 with c | c
    · rcases Nat.lt_or_ge (w + m) 63 with d | d
      · exact leafE a b d r63_4
      · exact leafF a c d hm r63_5
    · exact (letI : Lane := ⟨0⟩; leafR (.cons (.int ..) (.cons (rg c (by omega)) (.cons (rg b (by omega)) .nil))) r63_7)
theorem all64 {w m : Nat} (hw : w < 101) (hm : m < 101) : Ok (.ofNat 64) (.ofNat w) (.ofNat m) := by
  rcases Nat.eq_zero_or_pos w with a | a <;> rcases Nat.eq_zero_or_pos m with b | b
  · subst a; subst b; exact (letI : Lane := ⟨0⟩; leafR (.cons (.int ..) (.cons (.int ..) (.cons (.int ..) .nil))) r64_0)
  · subst a; rcases Nat.lt_or_ge m 64 with c | c
    · exact (letI : Lane := ⟨0⟩; leafR (.cons (.int ..) (.cons (.int ..) (.cons (rg b (by omega)) .nil))) r64_1)
    · exact (letI : Lane := ⟨0⟩; leafR (.cons (.int ..) (.cons (.int ..) (.cons (rg c (by omega)) .nil))) r64_2)
  · subst b; rcases Nat.lt_or_ge w 64 with c | c
    · exact (letI : Lane := ⟨0⟩; leafR (.cons (.int ..) (.cons (rg a (by omega)) (.cons (.int ..) .nil))) r64_3)
    · exact (letI : Lane := ⟨0⟩; leafR (.cons (.int ..) (.cons (rg c (by omega)) (.cons (.int ..) .nil))) r64_6)
  · rcases Nat.lt_or_ge w 64 with c | c
    · rcases Nat.lt_or_ge (w + m) 64 with d | d
      · exact leafE a b d r64_4
      · exact leafF a c d hm r64_5
    · exact (letI : Lane := ⟨0⟩; leafR (.cons (.int ..) (.cons (rg c (by omega)) (.cons (rg b (by omega)) .nil))) r64_7)
theorem all65 {w m : Nat} (hw : w < 101) (hm : m < 101) : Ok (.ofNat 65) (.ofNat w) (.ofNat m) := by
  rcases Nat.eq_zero_or_pos w with a | a <;> rcases Nat.eq_zero_or_pos m with b | b
  · subst a; subst b; exact (letI : Lane := ⟨0⟩; leafR (.cons (.int ..) (.cons (.int ..) (.cons (.int ..) .nil))) r65_0)
  · subst a; rcases Nat.lt_or_ge m 65 with c | c
    · exact (letI : Lane := ⟨0⟩; leafR (.cons (.int ..) (.cons (.int ..) (.cons (rg b (by omega)) .nil))) r65_1)
    · exact (letI : Lane := ⟨0⟩; leafR (.cons (.int ..) (.cons (.int ..) (.cons (rg c (by omega)) .nil))) r65_2)
  · subst b; rcases Nat.lt_or_ge w 65 with c | c
    · exact (letI : Lane := ⟨0⟩; leafR (.cons (.int ..) (.cons (rg a (by omega)) (.cons (.int ..) .nil))) r65_3)
    · exact (letI : Lane := ⟨0⟩; leafR (.cons (.int ..) (.cons (rg c (by omega)) (.cons (.int ..) .nil))) r65_6)
  · rcases Nat.lt_or_ge w 65 with c | c
    · rcases Nat.lt_or_ge (w + m) 65 with d | d
      · exact leafE a b d r65_4
      · exact leafF a c d hm r65_5
    · exact (letI : Lane := ⟨0⟩; leafR (.cons (.int ..) (.cons (rg c (by omega)) (.cons (rg b (by omega)) .nil))) r65_7)
theorem all66 {w m : Nat} (hw : w < 101) (hm : m < 101) : Ok (.ofNat 66) (.ofNat w) (.ofNat m) := by
  rcases Nat.eq_zero_or_pos w with a | a <;> rcases Nat.eq_zero_or_pos m with b | b
  · subst a; subst b; exact (letI : Lane := ⟨0⟩; leafR (.cons (.int ..) (.cons (.int ..) (.cons (.int ..) .nil))) r66_0)
  · subst a; rcases Nat.lt_or_ge m 66 with c | c
    · exact (letI : Lane := ⟨0⟩; leafR (.cons (.int ..) (.cons (.int ..) (.cons (rg b (by omega)) .nil))) r66_1)
    · exact (letI : Lane := ⟨0⟩; leafR (.cons (.int ..) (.cons (.int ..) (.cons (rg c (by omega)) .nil))) r66_2)
  · subst b; rcases Nat.lt_or_ge w 66 with c | c
    · exact (letI : Lane := ⟨0⟩; leafR (.cons (.int ..) (.cons (rg a (by omega)) (.cons (.int ..) .nil))) r66_3)
    · exact (letI : Lane := ⟨0⟩; leafR (.cons (.int ..) (.cons (rg c (by omega)) (.cons (.int ..) .nil))) r66_6)
  · rcases Nat.lt_or_ge w 66 with c | c
    · rcases Nat.lt_or_ge (w + m) 66 with d | d
      · exact leafE a b d r66_4
      · exact leafF a c d hm r66_5
    · exact (letI : Lane := ⟨0⟩; leafR (.cons (.int ..) (.cons (rg c (by omega)) (.cons (rg b (by omega)) .nil))) r66_7)
theorem all67 {w m : Nat} (hw : w < 101) (hm : m < 101) : Ok (.ofNat 67) (.ofNat w) (.ofNat m) := by
  rcases Nat.eq_zero_or_pos w with a | a <;> rcases Nat.eq_zero_or_pos m with b | b
  · subst a; subst b; exact (letI : Lane := ⟨0⟩; leafR (.cons (.int ..) (.cons (.int ..) (.cons (.int ..) .nil))) r67_0)
  · subst a; rcases Nat.lt_or_ge m 67 with c | c
    · exact (letI : Lane := ⟨0⟩; leafR (.cons (.int ..) (.cons (.int ..) (.cons (rg b (by omega)) .nil))) r67_1)
    · exact (letI : Lane := ⟨0⟩; leafR (.cons (.int ..) (.cons (.int ..) (.cons (rg c (by omega)) .nil))) r67_2)
  · subst b; rcases Nat.lt_or_ge w 67 with c | c
    · exact (letI : Lane := ⟨0⟩; leafR (.cons (.int ..) (.cons (rg a (by omega)) (.cons (.int ..) .nil))) r67_3)
    · exact (letI : Lane := ⟨0⟩; leafR (.cons (.int ..) (.cons (rg c (by omega)) (.cons (.int ..) .nil))) r67_6)
  · rcases Nat.lt_or_ge w 67 with c | c
    · rcases Nat.lt_or_ge (w + m) 67 with d | d
      · exact leafE a b d r67_4
      · exact leafF a c d hm r67_5
    · exact (letI : Lane := ⟨0⟩; leafR (.cons (.int ..) (.cons (rg c (by omega)) (.cons (rg b (by omega)) .nil))) r67_7)
theorem all68 {w m : Nat} (hw : w < 101) (hm : m < 101) : Ok (.ofNat 68) (.ofNat w) (.ofNat m) := by
  rcases Nat.eq_zero_or_pos w with a | a <;> rcases Nat.eq_zero_or_pos m with b | b
  · subst a; subst b; exact (letI : Lane := ⟨0⟩; leafR (.cons (.int ..) (.cons (.int ..) (.cons (.int ..) .nil))) r68_0)
  · subst a; rcases Nat.lt_or_ge m 68 with c | c
    · exact (letI : Lane := ⟨0⟩; leafR (.cons (.int ..) (.cons (.int ..) (.cons (rg b (by omega)) .nil))) r68_1)
    · exact (letI : Lane := ⟨0⟩; leafR (.cons (.int ..) (.cons (.int ..) (.cons (rg c (by omega)) .nil))) r68_2)
  · subst b; rcases Nat.lt_or_ge w 68 with c | c
    · exact (letI : Lane := ⟨0⟩; leafR (.cons (.int ..) (.cons (rg a (by omega)) (.cons (.int ..) .nil))) r68_3)
    · exact (letI : Lane := ⟨0⟩; leafR (.cons (.int ..) (.cons (rg c (by omega)) (.cons (.int ..) .nil))) r68_6)
  · rcases Nat.lt_or_ge w 68 with c | c
    · rcases Nat.lt_or_ge (w + m) 68 with d | d
      · exact leafE a b d r68_4
      · exact leafF a c d hm r68_5
    · exact (letI : Lane := ⟨0⟩; leafR (.cons (.int ..) (.cons (rg c (by omega)) (.cons (rg b (by omega)) .nil))) r68_7)
theorem all69 {w m : Nat} (hw : w < 101) (hm : m < 101) : Ok (.ofNat 69) (.ofNat w) (.ofNat m) := by
  rcases Nat.eq_zero_or_pos w with a | a <;> rcases Nat.eq_zero_or_pos m with b | b
  · subst a; subst b; exact (letI : Lane := ⟨0⟩; leafR (.cons (.int ..) (.cons (.int ..) (.cons (.int ..) .nil))) r69_0)
  · subst a; rcases Nat.lt_or_ge m 69 with c | c
    · exact (letI : Lane := ⟨0⟩; leafR (.cons (.int ..) (.cons (.int ..) (.cons (rg b (by omega)) .nil))) r69_1)
    · exact (letI : Lane := ⟨0⟩; leafR (.cons (.int ..) (.cons (.int ..) (.cons (rg c (by omega)) .nil))) r69_2)
  · subst b; rcases Nat.lt_or_ge w 69 with c | c
    · exact (letI : Lane := ⟨0⟩; leafR (.cons (.int ..) (.cons (rg a (by omega)) (.cons (.int ..) .nil))) r69_3)
    · exact (letI : Lane := ⟨0⟩; leafR (.cons (.int ..) (.cons (rg c (by omega)) (.cons (.int ..) .nil))) r69_6)
  · rcases Nat.lt_or_ge w 69 with c | c
    · rcases Nat.lt_or_ge (w + m) 69 with d | d
      · exact leafE a b d r69_4
      · exact leafF a c d hm r69_5
    · exact (letI : Lane := ⟨0⟩; leafR (.cons (.int ..) (.cons (rg c (by omega)) (.cons (rg b (by omega)) .nil))) r69_7)
theorem all70 {w m : Nat} (hw : w < 101) (hm : m < 101) : Ok (.ofNat 70) (.ofNat w) (.ofNat m) := by
  rcases Nat.eq_zero_or_pos w with a | a <;> rcases Nat.eq_zero_or_pos m with b | b
  · subst a; subst b; exact (letI : Lane := ⟨0⟩; leafR (.cons (.int ..) (.cons (.int ..) (.cons (.int ..) .nil))) r70_0)
  · subst a; rcases Nat.lt_or_ge m 70 with c | c
    · exact (letI : Lane := ⟨0⟩; leafR (.cons (.int ..) (.cons (.int ..) (.cons (rg b (by omega)) .nil))) r70_1)
    · exact (letI : Lane := ⟨0⟩; leafR (.cons (.int ..) (.cons (.int ..) (.cons (rg c (by omega)) .nil))) r70_2)
  · subst b; rcases Nat.lt_or_ge w 70 with c | c
    · exact (letI : Lane := ⟨0⟩; leafR (.cons (.int ..) (.cons (rg a (by omega)) (.cons (.int ..) .nil))) r70_3)
    · exact (letI : Lane := ⟨0⟩; leafR (.cons (.int ..) (.cons (rg c (by omega)) (.cons (.int ..) .nil))) r70_6)
  · rcases Nat.lt_or_ge w 70 with c | c
    · rcases Nat.lt_or_ge (w + m) 70 with d | d
      · exact leafE a b d r70_4
      · exact leafF a c d hm r70_5
    · exact (letI : Lane := ⟨0⟩; leafR (.cons (.int ..) (.cons (rg c (by omega)) (.cons (rg b (by omega)) .nil))) r70_7)
theorem all71 {w m : Nat} (hw : w < 101) (hm : m < 101) : Ok (.ofNat 71) (.ofNat w) (.ofNat m) := by
  rcases Nat.eq_zero_or_pos w with a | a <;> rcases Nat.eq_zero_or_pos m with b | b
  · subst a; subst b; exact (letI : Lane := ⟨0⟩; leafR (.cons (.int ..) (.cons (.int ..) (.cons (.int ..) .nil))) r71_0)
  · subst a; rcases Nat.lt_or_ge m 71 with c | c
    · exact (letI : Lane := ⟨0⟩; leafR (.cons (.int ..) (.cons (.int ..) (.cons (rg b (by omega)) .nil))) r71_1)
    · exact (letI : Lane := ⟨0⟩; leafR (.cons (.int ..) (.cons (.int ..) (.cons (rg c (by omega)) .nil))) r71_2)
  · subst b; rcases Nat.lt_or_ge w 71 with c | c
    · exact (letI : Lane := ⟨0⟩; leafR (.cons (.int ..) (.cons (rg a (by omega)) (.cons (.int ..) .nil))) r71_3)
    · exact (letI : Lane := ⟨0⟩; leafR (.cons (.int ..) (.cons (rg c (by omega)) (.cons (.int ..) .nil))) r71_6)
  · rcases Nat.lt_or_ge w 71 with c | c
    · rcases Nat.lt_or_ge (w + m) 71 with d | d
      · exact leafE a b d r71_4
      · exact leafF a c d hm r71_5
    · exact (letI : Lane := ⟨0⟩; leafR (.cons (.int ..) (.cons (rg c (by omega)) (.cons (rg b (by omega)) .nil))) r71_7)
theorem all72 {w m : Nat} (hw : w < 101) (hm : m < 101) : Ok (.ofNat 72) (.ofNat w) (.ofNat m) := by
  rcases Nat.eq_zero_or_pos w with a | a <;> rcases Nat.eq_zero_or_pos m with b | b
  · subst a; subst b; exact (letI : Lane := ⟨0⟩; leafR (.cons (.int ..) (.cons (.int ..) (.cons (.int ..) .nil))) r72_0)
  · subst a; rcases Nat.lt_or_ge m 72 with c | c
    · exact (letI : Lane := ⟨0⟩; leafR (.cons (.int ..) (.cons (.int ..) (.cons (rg b (by omega)) .nil))) r72_1)
    · exact (letI : Lane := ⟨0⟩; leafR (.cons (.int ..) (.cons (.int ..) (.cons (rg c (by omega)) .nil))) r72_2)
  · subst b; rcases Nat.lt_or_ge w 72 with c | c
    · exact (letI : Lane := ⟨0⟩; leafR (.cons (.int ..) (.cons (rg a (by omega)) (.cons (.int ..) .nil))) r72_3)
    · exact (letI : Lane := ⟨0⟩; leafR (.cons (.int ..) (.cons (rg c (by omega)) (.cons (.int ..) .nil))) r72_6)
  · rcases Nat.lt_or_ge w 72 with c | c
    · rcases Nat.lt_or_ge (w + m) 72 with d | d
      · exact leafE a b d r72_4
      · exact leafF a c d hm r72_5
    · exact (letI : Lane := ⟨0⟩; leafR (.cons (.int ..) (.cons (rg c (by omega)) (.cons (rg b (by omega)) .nil))) r72_7)
theorem all73 {w m : Nat} (hw : w < 101) (hm : m < 101) : Ok (.ofNat 73) (.ofNat w) (.ofNat m) := by
  rcases Nat.eq_zero_or_pos w with a | a <;> rcases Nat.eq_zero_or_pos m with b | b
  · subst a; subst b; exact (letI : Lane := ⟨0⟩; leafR (.cons (.int ..) (.cons (.int ..) (.cons (.int ..) .nil))) r73_0)
  · subst a; rcases Nat.lt_or_ge m 73 with c | c
    · exact (letI : Lane := ⟨0⟩; leafR (.cons (.int ..) (.cons (.int ..) (.cons (rg b (by omega)) .nil))) r73_1)
    · exact (letI : Lane := ⟨0⟩; leafR (.cons (.int ..) (.cons (.int ..) (.cons (rg c (by omega)) .nil))) r73_2)
  · subst b; rcases Nat.lt_or_ge w 73 with c | c
    · exact (letI : Lane := ⟨0⟩; leafR (.cons (.int ..) (.cons (rg a (by omega)) (.cons (.int ..) .nil))) r73_3)
    · exact (letI : Lane := ⟨0⟩; leafR (.cons (.int ..) (.cons (rg c (by omega)) (.cons (.int ..) .nil))) r73_6)
  · rcases Nat.lt_or_ge w 73 with c | c
    · rcases Nat.lt_or_ge (w + m) 73 with d | d
      · exact leafE a b d r73_4
      · exact leafF a c d hm r73_5
    · exact (letI : Lane := ⟨0⟩; leafR (.cons (.int ..) (.cons (rg c (by omega)) (.cons (rg b (by omega)) .nil))) r73_7)
theorem all74 {w m : Nat} (hw : w < 101) (hm : m < 101) : Ok (.ofNat 74) (.ofNat w) (.ofNat m) := by
  rcases Nat.eq_zero_or_pos w with a | a <;> rcases Nat.eq_zero_or_pos m with b | b
  · subst a; subst b; exact (letI : Lane := ⟨0⟩; leafR (.cons (.int ..) (.cons (.int ..) (.cons (.int ..) .nil))) r74_0)
  · subst a; rcases Nat.lt_or_ge m 74 with c | c
    · exact (letI : Lane := ⟨0⟩; leafR (.cons (.int ..) (.cons (.int ..) (.cons (rg b (by omega)) .nil))) r74_1)
    · exact (letI : Lane := ⟨0⟩; leafR (.cons (.int ..) (.cons (.int ..) (.cons (rg c (by omega)) .nil))) r74_2)
  · subst b; rcases Nat.lt_or_ge w 74 with c | c
    · exact (letI : Lane := ⟨0⟩; leafR (.cons (.int ..) (.cons (rg a (by omega)) (.cons (.int ..) .nil))) r74_3)
    · exact (letI : Lane := ⟨0⟩; leafR (.cons (.int ..) (.cons (rg c (by omega)) (.cons (.int ..) .nil))) r74_6)
  · rcases Nat.lt_or_ge w 74 with c | c
    · rcases Nat.lt_or_ge (w + m) 74 with d | d
      · exact leafE a b d r74_4
      · exact leafF a c d hm r74_5
    · exact (letI : Lane := ⟨0⟩; leafR (.cons (.int ..) (.cons (rg c (by omega)) (.cons (rg b (by omega)) .nil))) r74_7)
theorem all75 {w m : Nat} (hw : w < 101) (hm : m < 101) : Ok (.ofNat 75) (.ofNat w) (.ofNat m) := by
  rcases Nat.eq_zero_or_pos w with a | a <;> rcases Nat.eq_zero_or_pos m with b | b
  · subst a; subst b; exact (letI : Lane := ⟨0⟩; leafR (.cons (.int ..) (.cons (.int ..) (.cons (.int ..) .nil))) r75_0)
  · subst a; rcases Nat.lt_or_ge m 75 with c | c
    · exact (letI : Lane := ⟨0⟩; leafR (.cons (.int ..) (.cons (.int ..) (.cons (rg b (by omega)) .nil))) r75_1)
    · exact (letI : Lane := ⟨0⟩; leafR (.cons (.int ..) (.cons (.int ..) (.cons (rg c (by omega)) .nil))) r75_2)
  · subst b; rcases Nat.lt_or_ge w 75 with c | c
    · exact (letI : Lane := ⟨0⟩; leafR (.cons (.int ..) (.cons (rg a (by omega)) (.cons (.int ..) .nil))) r75_3)
    · exact (letI : Lane := ⟨0⟩; leafR (.cons (.int ..) (.cons (rg c (by omega)) (.cons (.int ..) .nil))) r75_6)
  · rcases Nat.lt_or_ge w 75 with c | c
    · rcases Nat.lt_or_ge (w + m) 75 with d | d
      · exact leafE a b d r75_4
      · exact leafF a c d hm r75_5
    · exact (letI : Lane := ⟨0⟩; leafR (.cons (.int ..) (.cons (rg c (by omega)) (.cons (rg b (by omega)) .nil))) r75_7)
theorem all76 {w m : Nat} (hw : w < 101) (hm : m < 101) : Ok (.ofNat 76) (.ofNat w) (.ofNat m) := by
  rcases Nat.eq_zero_or_pos w with a | a <;> rcases Nat.eq_zero_or_pos m with b | b
  · subst a; subst b; exact (letI : Lane := ⟨0⟩; leafR (.cons (.int ..) (.cons (.int ..) (.cons (.int ..) .nil))) r76_0)
  · subst a; rcases Nat.lt_or_ge m 76 with c | c
    · exact (letI : Lane := ⟨0⟩; leafR (.cons (.int ..) (.cons (.int ..) (.cons (rg b (by omega)) .nil))) r76_1)
    · exact (letI : Lane := ⟨0⟩; leafR (.cons (.int ..) (.cons (.int ..) (.cons (rg c (by omega)) .nil))) r76_2)
  · subst b; rcases Nat.lt_or_ge w 76 with c | c
    · exact (letI : Lane := ⟨0⟩; leafR (.cons (.int ..) (.cons (rg a (by omega)) (.cons (.int ..) .nil))) r76_3)
    · exact (letI : Lane := ⟨0⟩; leafR (.cons (.int ..) (.cons (rg c (by omega)) (.cons (.int ..) .nil))) r76_6)
  · rcases Nat.lt_or_ge w 76 with c | c
    · rcases Nat.lt_or_ge (w + m) 76 with d | d
      · exact leafE a b d r76_4
      · exact leafF a c d hm r76_5
    · exact (letI : Lane := ⟨0⟩; leafR (.cons (.int ..) (.cons (rg c (by omega)) (.cons (rg b (by omega)) .nil))) r76_7)
theorem all77 {w m : Nat} (hw : w < 101) (hm : m < 101) : Ok (.ofNat 77) (.ofNat w) (.ofNat m) := by
  rcases Nat.eq_zero_or_pos w with a | a <;> rcases Nat.eq_zero_or_pos m with b | b
  · subst a; subst b; exact (letI : Lane := ⟨0⟩; leafR (.cons (.int ..) (.cons (.int ..) (.cons (.int ..) .nil))) r77_0)
  · subst a; rcases Nat.lt_or_ge m 77 with c | c
    · exact (letI : Lane := ⟨0⟩; leafR (.cons (.int ..) (.cons (.int ..) (.cons (rg b (by omega)) .nil))) r77_1)
    · exact (letI : Lane := ⟨0⟩; leafR (.cons (.int ..) (.cons (.int ..) (.cons (rg c (by omega)) .nil))) r77_2)
  · subst b; rcases Nat.lt_or_ge w 77 with c | c
    · exact (letI : Lane := ⟨0⟩; leafR (.cons (.int ..) (.cons (rg a (by omega)) (.cons (.int ..) .nil))) r77_3)
    · exact (letI : Lane := ⟨0⟩; leafR (.cons (.int ..) (.cons (rg c (by omega)) (.cons (.int ..) .nil))) r77_6)
  · rcases Nat.lt_or_ge w 77 with c | c
    · rcases Nat.lt_or_ge (w + m) 77 with d | d
      · exact leafE a b d r77_4
      · exact leafF a c d hm r77_5
    · exact (letI : Lane := ⟨0⟩; leafR (.cons (.int ..) (.cons (rg c (by omega)) (.cons (rg b (by omega)) .nil))) r77_7)
theorem all78 {w m : Nat} (hw : w < 101) (hm : m < 101) : Ok (.ofNat 78) (.ofNat w) (.ofNat m) := by
  rcases Nat.eq_zero_or_pos w with a | a <;> rcases Nat.eq_zero_or_pos m with b | b
  · subst a; subst b; exact (letI : Lane := ⟨0⟩; leafR (.cons (.int ..) (.cons (.int ..) (.cons (.int ..) .nil))) r78_0)
  · subst a; rcases Nat.lt_or_ge m 78 with c | c
    · exact (letI : Lane := ⟨0⟩; leafR (.cons (.int ..) (.cons (.int ..) (.cons (rg b (by omega)) .nil))) r78_1)
    · exact (letI : Lane := ⟨0⟩; leafR (.cons (.int ..) (.cons (.int ..) (.cons (rg c (by omega)) .nil))) r78_2)
  · subst b; rcases Nat.lt_or_ge w 78 with c | c
    · exact (letI : Lane := ⟨0⟩; leafR (.cons (.int ..) (.cons (rg a (by omega)) (.cons (.int ..) .nil))) r78_3)
    · exact (letI : Lane := ⟨0⟩; leafR (.cons (.int ..) (.cons (rg c (by omega)) (.cons (.int ..) .nil))) r78_6)
  · rcases Nat.lt_or_ge w 78 with c | c
    · rcases Nat.lt_or_ge (w + m) 78 with d | d
      · exact leafE a b d r78_4
      · exact leafF a c d hm r78_5
    · exact (letI : Lane := ⟨0⟩; leafR (.cons (.int ..) (.cons (rg c (by omega)) (.cons (rg b (by omega)) .nil))) r78_7)
theorem all79 {w m : Nat} (hw : w < 101) (hm : m < 101) : Ok (.ofNat 79) (.ofNat w) (.ofNat m) := by
  rcases Nat.eq_zero_or_pos w with a | a <;> rcases Nat.eq_zero_or_pos m with b | b
  · subst a; subst b; exact (letI : Lane := ⟨0⟩; leafR (.cons (.int ..) (.cons (.int ..) (.cons (.int ..) .nil))) r79_0)
  · subst a; rcases Nat.lt_or_ge m 79 with c | c
    · exact (letI : Lane := ⟨0⟩; leafR (.cons (.int ..) (.cons (.int ..) (.cons (rg b (by omega)) .nil))) r79_1)
    · exact (letI : Lane := ⟨0⟩; leafR (.cons (.int ..) (.cons (.int ..) (.cons (rg c (by omega)) .nil))) r79_2)
  · subst b; rcases Nat.lt_or_ge w 79 with c | c
    · exact (letI : Lane := ⟨0⟩; leafR (.cons (.int ..) (.cons (rg a (by omega)) (.cons (.int ..) .nil))) r79_3)
    · exact (letI : Lane := ⟨0⟩; leafR (.cons (.int ..) (.cons (rg c (by omega)) (.cons (.int ..) .nil))) r79_6)
  · rcases Nat.lt_or_ge w 79 with c | c
    · rcases Nat.lt_or_ge (w + m) 79 with d | d
      · exact leafE a b d r79_4
      · exact leafF a c d hm r79_5
    · exact (letI : Lane := ⟨0⟩; leafR (.cons (.int ..) (.cons (rg c (by omega)) (.cons (rg b (by omega)) .nil))) r79_7)
theorem all80 {w m : Nat} (hw : w < 101) (hm : m < 101) : Ok (.ofNat 80) (.ofNat w) (.ofNat m) := by
  rcases Nat.eq_zero_or_pos w with a | a <;> rcases Nat.eq_zero_or_pos m with b | b
  · subst a; subst b; exact (letI : Lane := ⟨0⟩; leafR (.cons (.int ..) (.cons (.int ..) (.cons (.int ..) .nil))) r80_0)
  · subst a; rcases Nat.lt_or_ge m 80 with c | c
    · exact (letI : Lane := ⟨0⟩; leafR (.cons (.int ..) (.cons (.int ..) (.cons (rg b (by omega)) .nil))) r80_1)
    · exact (letI : Lane := ⟨0⟩; leafR (.cons (.int ..) (.cons (.int ..) (.cons (rg c (by omega)) .nil))) r80_2)
  · subst b; rcases Nat.lt_or_ge w 80 with c | c
    · exact (letI : Lane := ⟨0⟩; leafR (.cons (.int ..) (.cons (rg a (by omega)) (.cons (.int ..) .nil))) r80_3)
    · exact (letI : Lane := ⟨0⟩; leafR (.cons (.int ..) (.cons (rg c (by omega)) (.cons (.int ..) .nil))) r80_6)
  · rcases Nat.lt_or_ge w 80 with c | c
    · rcases Nat.lt_or_ge (w + m) 80 with d | d
      · exact leafE a b d r80_4
      · exact leafF a c d hm r80_5
    · exact (letI : Lane := ⟨0⟩; leafR (.cons (.int ..) (.cons (rg c (by omega)) (.cons (rg b (by omega)) .nil))) r80_7)
theorem all81 {w m : Nat} (hw : w < 101) (hm : m < 101) : Ok (.ofNat 81) (.ofNat w) (.ofNat m) := by
  rcases Nat.eq_zero_or_pos w with a | a <;> rcases Nat.eq_zero_or_pos m with b | b
  · subst a; subst b; exact (letI : Lane := ⟨0⟩; leafR (.cons (.int ..) (.cons (.int ..) (.cons (.int ..) .nil))) r81_0)
  · subst a; rcases Nat.lt_or_ge m 81 with c | c
    · exact (letI : Lane := ⟨0⟩; leafR (.cons (.int ..) (.cons (.int ..) (.cons (rg b (by omega)) .nil))) r81_1)
    · exact (letI : Lane := ⟨0⟩; leafR (.cons (.int ..) (.cons (.int ..) (.cons (rg c (by omega)) .nil))) r81_2)
  · subst b; rcases Nat.lt_or_ge w 81 with c | c
    · exact (letI : Lane := ⟨0⟩; leafR (.cons (.int ..) (.cons (rg a (by omega)) (.cons (.int ..) .nil))) r81_3)
    · exact (letI : Lane := ⟨0⟩; leafR (.cons (.int ..) (.cons (rg c (by omega)) (.cons (.int ..) .nil))) r81_6)
  · rcases Nat.lt_or_ge w 81 with c | c
    · rcases Nat.lt_or_ge (w + m) 81 with d | d
      · exact leafE a b d r81_4
      · exact leafF a c d hm r81_5
    · exact (letI : Lane := ⟨0⟩; leafR (.cons (.int ..) (.cons (rg c (by omega)) (.cons (rg b (by omega)) .nil))) r81_7)
theorem all82 {w m : Nat} (hw : w < 101) (hm : m < 101) : Ok (.ofNat 82) (.ofNat w) (.ofNat m) := by
  rcases Nat.eq_zero_or_pos w with a | a <;> rcases Nat.eq_zero_or_pos m with b | b
  · subst a; subst b; exact (letI : Lane := ⟨0⟩; leafR (.cons (.int ..) (.cons (.int ..) (.cons (.int ..) .nil))) r82_0)
  · subst a; rcases Nat.lt_or_ge m 82 with c | c
    · exact (letI : Lane := ⟨0⟩; leafR (.cons (.int ..) (.cons (.int ..) (.cons (rg b (by omega)) .nil))) r82_1)
    · exact (letI : Lane := ⟨0⟩; leafR (.cons (.int ..) (.cons (.int ..) (.cons (rg c (by omega)) .nil))) r82_2)
  · subst b; rcases Nat.lt_or_ge w 82 with c | c
    · exact (letI : Lane := ⟨0⟩; leafR (.cons (.int ..) (.cons (rg a (by omega)) (.cons (.int ..) .nil))) r82_3)
    · exact (letI : Lane := ⟨0⟩; leafR (.cons (.int ..) (.cons (rg c (by omega)) (.cons (.int ..) .nil))) r82_6)
  · rcases Nat.lt_or_ge w 82 with c | c
    · rcases Nat.lt_or_ge (w + m) 82 with d | d
      · exact leafE a b d r82_4
      · exact leafF a c d hm r82_5
    · exact (letI : Lane := ⟨0⟩; leafR (.cons (.int ..) (.cons (rg c (by omega)) (.cons (rg b (by omega)) .nil))) r82_7)
theorem all83 {w m : Nat} (hw : w < 101) (hm : m < 101) : Ok (.ofNat 83) (.ofNat w) (.ofNat m) := by
  rcases Nat.eq_zero_or_pos w with a | a <;> rcases Nat.eq_zero_or_pos m with b | b
  · subst a; subst b; exact (letI : Lane := ⟨0⟩; leafR (.cons (.int ..) (.cons (.int ..) (.cons (.int ..) .nil))) r83_0)
  · subst a; rcases Nat.lt_or_ge m 83 with c | c
    · exact (letI : Lane := ⟨0⟩; leafR (.cons (.int ..) (.cons (.int ..) (.cons (rg b (by omega)) .nil))) r83_1)
    · exact (letI : Lane := ⟨0⟩; leafR (.cons (.int ..) (.cons (.int ..) (.cons (rg c (by omega)) .nil))) r83_2)
  · subst b; rcases Nat.lt_or_ge w 83 with c | c
    · exact (letI : Lane := ⟨0⟩; leafR (.cons (.int ..) (.cons (rg a (by omega)) (.cons (.int ..) .nil))) r83_3)
    · exact (letI : Lane := ⟨0⟩; leafR (.cons (.int ..) (.cons (rg c (by omega)) (.cons (.int ..) .nil))) r83_6)
  · rcases Nat.lt_or_ge w 83 with c | c
    · rcases Nat.lt_or_ge (w + m) 83 with d | d
      · exact leafE a b d r83_4
      · exact leafF a c d hm r83_5
    · exact (letI : Lane := ⟨0⟩; leafR (.cons (.int ..) (.cons (rg c (by omega)) (.cons (rg b (by omega)) .nil))) r83_7)
theorem all84 {w m : Nat} (hw : w < 101) (hm : m < 101) : Ok (.ofNat 84) (.ofNat w) (.ofNat m) := by
  rcases Nat.eq_zero_or_pos w with a | a <;> rcases Nat.eq_zero_or_pos m with b | b
  · subst a; subst b; exact (letI : Lane := ⟨0⟩; leafR (.cons (.int ..) (.cons (.int ..) (.cons (.int ..) .nil))) r84_0)
  · subst a; rcases Nat.lt_or_ge m 84 with c | c
    · exact (letI : Lane := ⟨0⟩; leafR (.cons (.int ..) (.cons (.int ..) (.cons (rg b (by omega)) .nil))) r84_1)
    · exact (letI : Lane := ⟨0⟩; leafR (.cons (.int ..) (.cons (.int ..) (.cons (rg c (by omega)) .nil))) r84_2)
  · subst b; rcases Nat.lt_or_ge w 84 with c | c
    · exact (letI : Lane := ⟨0⟩; leafR (.cons (.int ..) (.cons (rg a (by omega)) (.cons (.int ..) .nil))) r84_3)
    · exact (letI : Lane := ⟨0⟩; leafR (.cons (.int ..) (.cons (rg c (by omega)) (.cons (.int ..) .nil))) r84_6)
  · rcases Nat.lt_or_ge w 84 with c | c
    · rcases Nat.lt_or_ge (w + m) 84 with d | d
      · exact leafE a b d r84_4
      · exact leafF a c d hm r84_5
    · exact (letI : Lane := ⟨0⟩; leafR (.cons (.int ..) (.cons (rg c (by omega)) (.cons (rg b (by omega)) .nil))) r84_7)
theorem all85 {w m : Nat} (hw : w < 101) (hm : m < 101) : Ok (.ofNat 85) (.ofNat w) (.ofNat m) := by
  rcases Nat.eq_zero_or_pos w with a | a <;> rcases Nat.eq_zero_or_pos m with b | b
  · subst a; subst b; exact (letI : Lane := ⟨0⟩; leafR (.cons (.int ..) (.cons (.int ..) (.cons (.int ..) .nil))) r85_0)
  · subst a; rcases Nat.lt_or_ge m 85 with c | c
    · exact (letI : Lane := ⟨0⟩; leafR (.cons (.int ..) (.cons (.int ..) (.cons (rg b (by omega)) .nil))) r85_1)
    · exact (letI : Lane := ⟨0⟩; leafR (.cons (.int ..) (.cons (.int ..) (.cons (rg c (by omega)) .nil))) r85_2)
  · subst b; rcases Nat.lt_or_ge w 85 with c | c
    · exact (letI : Lane := ⟨0⟩; leafR (.cons (.int ..) (.cons (rg a (by omega)) (.cons (.int ..) .nil))) r85_3)
    · exact (letI : Lane := ⟨0⟩; leafR (.cons (.int ..) (.cons (rg c (by omega)) (.cons (.int ..) .nil))) r85_6)
  · rcases Nat.lt_or_ge w 85 with c | c
    · rcases Nat.lt_or_ge (w + m) 85 with d | d
      · exact leafE a b d r85_4
      · exact leafF a c d hm r85_5
    · exact (letI : Lane := ⟨0⟩; leafR (.cons (.int ..) (.cons (rg c (by omega)) (.cons (rg b (by omega)) .nil))) r85_7)
theorem all86 {w m : Nat} (hw : w < 101) (hm : m < 101) : Ok (.ofNat 86) (.ofNat w) (.ofNat m) := by
  rcases Nat.eq_zero_or_pos w with a | a <;> rcases Nat.eq_zero_or_pos m with b | b
  · subst a; subst b; exact (letI : Lane := ⟨0⟩; leafR (.cons (.int ..) (.cons (.int ..) (.cons (.int ..) .nil))) r86_0)
  · subst a; rcases Nat.lt_or_ge m 86 with c | c
    · exact (letI : Lane := ⟨0⟩; leafR (.cons (.int ..) (.cons (.int ..) (.cons (rg b (by omega)) .nil))) r86_1)
    · exact (letI : Lane := ⟨0⟩; leafR (.cons (.int ..) (.cons (.int ..) (.cons (rg c (by omega)) .nil))) r86_2)
  · subst b; rcases Nat.lt_or_ge w 86 with c | c
    · exact (letI : Lane := ⟨0⟩; leafR (.cons (.int ..) (.cons (rg a (by omega)) (.cons (.int ..) .nil))) r86_3)
    · exact (letI : Lane := ⟨0⟩; leafR (.cons (.int ..) (.cons (rg c (by omega)) (.cons (.int ..) .nil))) r86_6)
  · rcases Nat.lt_or_ge w 86 with c | c
    · rcases Nat.lt_or_ge (w + m) 86 with d | d
      · exact leafE a b d r86_4
      · exact leafF a c d hm r86_5
    · exact (letI : Lane := ⟨0⟩; leafR (.cons (.int ..) (.cons (rg c (by omega)) (.cons (rg b (by omega)) .nil))) r86_7)
theorem all87 {w m : Nat} (hw : w < 101) (hm : m < 101) : Ok (.ofNat 87) (.ofNat w) (.ofNat m) := by
  rcases Nat.eq_zero_or_pos w with a | a <;> rcases Nat.eq_zero_or_pos m with b | b
  · subst a; subst b; exact (letI : Lane := ⟨0⟩; leafR (.cons (.int ..) (.cons (.int ..) (.cons (.int ..) .nil))) r87_0)
  · subst a; rcases Nat.lt_or_ge m 87 with c | c
    · exact (letI : Lane := ⟨0⟩; leafR (.cons (.int ..) (.cons (.int ..) (.cons (rg b (by omega)) .nil))) r87_1)
    · exact (letI : Lane := ⟨0⟩; leafR (.cons (.int ..) (.cons (.int ..) (.cons (rg c (by omega)) .nil))) r87_2)
  · subst b; rcases Nat.lt_or_ge w 87 with c | c
    · exact (letI : Lane := ⟨0⟩; leafR (.cons (.int ..) (.cons (rg a (by omega)) (.cons (.int ..) .nil))) r87_3)
    · exact (letI : Lane := ⟨0⟩; leafR (.cons (.int ..) (.cons (rg c (by omega)) (.cons (.int ..) .nil))) r87_6)
  · rcases Nat.lt_or_ge w 87 with c | c
    · rcases Nat.lt_or_ge (w + m) 87 with d | d
      · exact leafE a b d r87_4
      · exact leafF a c d hm r87_5
    · exact (letI : Lane := ⟨0⟩; leafR (.cons (.int ..) (.cons (rg c (by omega)) (.cons (rg b (by omega)) .nil))) r87_7)
theorem all88 {w m : Nat} (hw : w < 101) (hm : m < 101) : Ok (.ofNat 88) (.ofNat w) (.ofNat m) := by
  rcases Nat.eq_zero_or_pos w with a | a <;> rcases Nat.eq_zero_or_pos m with b | b
  · subst a; subst b; exact (letI : Lane := ⟨0⟩; leafR (.cons (.int ..) (.cons (.int ..) (.cons (.int ..) .nil))) r88_0)
  · subst a; rcases Nat.lt_or_ge m 88 with c | c
    · exact (letI : Lane := ⟨0⟩; leafR (.cons (.int ..) (.cons (.int ..) (.cons (rg b (by omega)) .nil))) r88_1)
    · exact (letI : Lane := ⟨0⟩; leafR (.cons (.int ..) (.cons (.int ..) (.cons (rg c (by omega)) .nil))) r88_2)
  · subst b; rcases Nat.lt_or_ge w 88 with c | c
    · exact (letI : Lane := ⟨0⟩; leafR (.cons (.int ..) (.cons (rg a (by omega)) (.cons (.int ..) .nil))) r88_3)
    · exact (letI : Lane := ⟨0⟩; leafR (.cons (.int ..) (.cons (rg c (by omega)) (.cons (.int ..) .nil))) r88_6)
  · rcases Nat.lt_or_ge w 88 with c | c
    · rcases Nat.lt_or_ge (w + m) 88 with d | d
      · exact leafE a b d r88_4
      · exact leafF a c d hm r88_5
    · exact (letI : Lane := ⟨0⟩; leafR (.cons (.int ..) (.cons (rg c (by omega)) (.cons (rg b (by omega)) .nil))) r88_7)
theorem all89 {w m : Nat} (hw : w < 101) (hm : m < 101) : Ok (.ofNat 89) (.ofNat w) (.ofNat m) := by
  rcases Nat.eq_zero_or_pos w with a | a <;> rcases Nat.eq_zero_or_pos m with b | b
  · subst a; subst b; exact (letI : Lane := ⟨0⟩; leafR (.cons (.int ..) (.cons (.int ..) (.cons (.int ..) .nil))) r89_0)
  · subst a; rcases Nat.lt_or_ge m 89 with c | c
    · exact (letI : Lane := ⟨0⟩; leafR (.cons (.int ..) (.cons (.int ..) (.cons (rg b (by omega)) .nil))) r89_1)
    · exact (letI : Lane := ⟨0⟩; leafR (.cons (.int ..) (.cons (.int ..) (.cons (rg c (by omega)) .nil))) r89_2)
  · subst b; rcases Nat.lt_or_ge w 89 with c | c
    · exact (letI : Lane := ⟨0⟩; leafR (.cons (.int ..) (.cons (rg a (by omega)) (.cons (.int ..) .nil))) r89_3)
    · exact (letI : Lane := ⟨0⟩; leafR (.cons (.int ..) (.cons (rg c (by omega)) (.cons (.int ..) .nil))) r89_6)
  · rcases Nat.lt_or_ge w 89 with c | c
    · rcases Nat.lt_or_ge (w + m) 89 with d | d
      · exact leafE a b d r89_4
      · exact leafF a c d hm r89_5
    · exact (letI : Lane := ⟨0⟩; leafR (.cons (.int ..) (.cons (rg c (by omega)) (.cons (rg b (by omega)) .nil))) r89_7)
theorem all90 {w m : Nat} (hw : w < 101) (hm : m < 101) : Ok (.ofNat 90) (.ofNat w) (.ofNat m) := by
  rcases Nat.eq_zero_or_pos w with a | a <;> rcases Nat.eq_zero_or_pos m with b | b
  · subst a; subst b; exact (letI : Lane := ⟨0⟩; leafR (.cons (.int ..) (.cons (.int ..) (.cons (.int ..) .nil))) r90_0)
  · subst a; rcases Nat.lt_or_ge m 90 with c | c
    · exact (letI : Lane := ⟨0⟩; leafR (.cons (.int ..) (.cons (.int ..) (.cons (rg b (by omega)) .nil))) r90_1)
    · exact (letI : Lane := ⟨0⟩; leafR (.cons (.int ..) (.cons (.int ..) (.cons (rg c (by omega)) .nil))) r90_2)
  · subst b; rcases Nat.lt_or_ge w 90 with c | c
    · exact (letI : Lane := ⟨0⟩; leafR (.cons (.int ..) (.cons (rg a (by omega)) (.cons (.int ..) .nil))) r90_3)
    · exact (letI : Lane := ⟨0⟩; leafR (.cons (.int ..) (.cons (rg c (by omega)) (.cons (.int ..) .nil))) r90_6)
  · rcases Nat.lt_or_ge w 90 with c | c
    · rcases Nat.lt_or_ge (w + m) 90 with d | d
      · exact leafE a b d r90_4
      · exact leafF a c d hm r90_5
    · exact (letI : Lane := ⟨0⟩; leafR (.cons (.int ..) (.cons (rg c (by omega)) (.cons (rg b (by omega)) .nil))) r90_7)
theorem all91 {w m : Nat} (hw : w < 101) (hm : m < 101) : Ok (.ofNat 91) (.ofNat w) (.ofNat m) := by
  rcases Nat.eq_zero_or_pos w with a | a <;> rcases Nat.eq_zero_or_pos m with b | b
  · subst a; subst b; exact (letI : Lane := ⟨0⟩; leafR (.cons (.int ..) (.cons (.int ..) (.cons (.int ..) .nil))) r91_0)
  · subst a; rcases Nat.lt_or_ge m 91 with c | c
    · exact (letI : Lane := ⟨0⟩; leafR (.cons (.int ..) (.cons (.int ..) (.cons (rg b (by omega)) .nil))) r91_1)
    · exact (letI : Lane := ⟨0⟩; leafR (.cons (.int ..) (.cons (.int ..) (.cons (rg c (by omega)) .nil))) r91_2)
  · subst b; rcases Nat.lt_or_ge w 91 with c | c
    · exact (letI : Lane := ⟨0⟩; leafR (.cons (.int ..) (.cons (rg a (by omega)) (.cons (.int ..) .nil))) r91_3)
    · exact (letI : Lane := ⟨0⟩; leafR (.cons (.int ..) (.cons (rg c (by omega)) (.cons (.int ..) .nil))) r91_6)
  · rcases Nat.lt_or_ge w 91 with c | c
    · rcases Nat.lt_or_ge (w + m) 91 with d | d
      · exact leafE a b d r91_4
      · exact leafF a c d hm r91_5
    · exact (letI : Lane := ⟨0⟩; leafR (.cons (.int ..) (.cons (rg c (by omega)) (.cons (rg b (by omega)) .nil))) r91_7)
theorem all92 {w m : Nat} (hw : w < 101) (hm : m < 101) : Ok (.ofNat 92) (.ofNat w) (.ofNat m) := by
  rcases Nat.eq_zero_or_pos w with a | a <;> rcases Nat.eq_zero_or_pos m with b | b
  · subst a; subst b; exact (letI : Lane := ⟨0⟩; leafR (.cons (.int ..) (.cons (.int ..) (.cons (.int ..) .nil))) r92_0)
  · subst a; rcases Nat.lt_or_ge m 92 with c | c
    · exact (letI : Lane := ⟨0⟩; leafR (.cons (.int ..) (.cons (.int ..) (.cons (rg b (by omega)) .nil))) r92_1)
    · exact (letI : Lane := ⟨0⟩; leafR (.cons (.int ..) (.cons (.int ..) (.cons (rg c (by omega)) .nil))) r92_2)
  · subst b; rcases Nat.lt_or_ge w 92 with c | c
    · exact (letI : Lane := ⟨0⟩; leafR (.cons (.int ..) (.cons (rg a (by omega)) (.cons (.int ..) .nil))) r92_3)
    · exact (letI : Lane := ⟨0⟩; leafR (.cons (.int ..) (.cons (rg c (by omega)) (.cons (.int ..) .nil))) r92_6)
  · rcases Nat.lt_or_ge w 92 with c | c
    · rcases Nat.lt_or_ge (w + m) 92 with d | d
      · exact leafE a b d r92_4
      · exact leafF a c d hm r92_5
    · exact (letI : Lane := ⟨0⟩; leafR (.cons (.int ..) (.cons (rg c (by omega)) (.cons (rg b (by omega)) .nil))) r92_7)
theorem all93 {w m : Nat} (hw : w < 101) (hm : m < 101) : Ok (.ofNat 93) (.ofNat w) (.ofNat m) := by
  rcases Nat.eq_zero_or_pos w with a | a <;> rcases Nat.eq_zero_or_pos m with b | b
  · subst a; subst b; exact (letI : Lane := ⟨0⟩; leafR (.cons (.int ..) (.cons (.int ..) (.cons (.int ..) .nil))) r93_0)
  · subst a; rcases Nat.lt_or_ge m 93 with c | c
    · exact (letI : Lane := ⟨0⟩; leafR (.cons (.int ..) (.cons (.int ..) (.cons (rg b (by omega)) .nil))) r93_1)
    · exact (letI : Lane := ⟨0⟩; leafR (.cons (.int ..) (.cons (.int ..) (.cons (rg c (by omega)) .nil))) r93_2)
  · subst b; rcases Nat.lt_or_ge w 93 with c | c
    · exact (letI : Lane := ⟨0⟩; leafR (.cons (.int ..) (.cons (rg a (by omega)) (.cons (.int ..) .nil))) r93_3)
    · exact (letI : Lane := ⟨0⟩; leafR (.cons (.int ..) (.cons (rg c (by omega)) (.cons (.int ..) .nil))) r93_6)
  · rcases Nat.lt_or_ge w 93 with c | c
    · rcases Nat.lt_or_ge (w + m) 93 with d | d
      · exact leafE a b d r93_4
      · exact leafF a c d hm r93_5
    · exact (letI : Lane := ⟨0⟩; leafR (.cons (.int ..) (.cons (rg c (by omega)) (.cons (rg b (by omega)) .nil))) r93_7)
theorem all94 {w m : Nat} (hw : w < 101) (hm : m < 101) : Ok (.ofNat 94) (.ofNat w) (.ofNat m) := by
  rcases Nat.eq_zero_or_pos w with a | a <;> rcases Nat.eq_zero_or_pos m with b | b
  · subst a; subst b; exact (letI : Lane := ⟨0⟩; leafR (.cons (.int ..) (.cons (.int ..) (.cons (.int ..) .nil))) r94_0)
  · subst a; rcases Nat.lt_or_ge m 94 with c | c
    · exact (letI : Lane := ⟨0⟩; leafR (.cons (.int ..) (.cons (.int ..) (.cons (rg b (by omega)) .nil))) r94_1)
    · exact (letI : Lane := ⟨0⟩; leafR (.cons (.int ..) (.cons (.int ..) (.cons (rg c (by omega)) .nil))) r94_2)
  · subst b; rcases Nat.lt_or_ge w 94 with c | c
    · exact (letI : Lane := ⟨0⟩; leafR (.cons (.int ..) (.cons (rg a (by omega)) (.cons (.int ..) .nil))) r94_3)
    · exact (letI : Lane := ⟨0⟩; leafR (.cons (.int ..) (.cons (rg c (by omega)) (.cons (.int ..) .nil))) r94_6)
  · rcases Nat.lt_or_ge w 94 with c | c
    · rcases Nat.lt_or_ge (w + m) 94 with d | d
      · exact leafE a b d r94_4
      · exact leafF a c d hm r94_5
    · exact (letI : Lane := ⟨0⟩; leafR (.cons (.int ..) (.cons (rg c (by omega)) (.cons (rg b (by omega)) .nil))) r94_7)
theorem all95 {w m : Nat} (hw : w < 101) (hm : m < 101) : Ok (.ofNat 95) (.ofNat w) (.ofNat m) := by
  rcases Nat.eq_zero_or_pos w with a | a <;> rcases Nat.eq_zero_or_pos m with b | b
  · subst a; subst b; exact (letI : Lane := ⟨0⟩; leafR (.cons (.int ..) (.cons (.int ..) (.cons (.int ..) .nil))) r95_0)
  · subst a; rcases Nat.lt_or_ge m 95 with c | c
    · exact (letI : Lane := ⟨0⟩; leafR (.cons (.int ..) (.cons (.int ..) (.cons (rg b (by omega)) .nil))) r95_1)
    · exact (letI : Lane := ⟨0⟩; leafR (.cons (.int ..) (.cons (.int ..) (.cons (rg c (by omega)) .nil))) r95_2)
  · subst b; rcases Nat.lt_or_ge w 95 with c | c
    · exact (letI : Lane := ⟨0⟩; leafR (.cons (.int ..) (.cons (rg a (by omega)) (.cons (.int ..) .nil))) r95_3)
    · exact (letI : Lane := ⟨0⟩; leafR (.cons (.int ..) (.cons (rg c (by omega)) (.cons (.int ..) .nil))) r95_6)
  · rcases Nat.lt_or_ge w 95 with c | c
    · rcases Nat.lt_or_ge (w + m) 95 with d | d
      · exact leafE a b d r95_4
      · exact leafF a c d hm r95_5
    · exact (letI : Lane := ⟨0⟩; leafR (.cons (.int ..) (.cons (rg c (by omega)) (.cons (rg b (by omega)) .nil))) r95_7)
theorem all96 {w m : Nat} (hw : w < 101) (hm : m < 101) : Ok (.ofNat 96) (.ofNat w) (.ofNat m) := by
  rcases Nat.eq_zero_or_pos w with a | a <;> rcases Nat.eq_zero_or_pos m with b | b
  · subst a; subst b; exact (letI : Lane := ⟨0⟩; leafR (.cons (.int ..) (.cons (.int ..) (.cons (.int ..) .nil))) r96_0)
  · subst a; rcases Nat.lt_or_ge m 96 with c | c
    · exact (letI : Lane := ⟨0⟩; leafR (.cons (.int ..) (.cons (.int ..) (.cons (rg b (by omega)) .nil))) r96_1)
    · exact (letI : Lane := ⟨0⟩; leafR (.cons (.int ..) (.cons (.int ..) (.cons (rg c (by omega)) .nil))) r96_2)
  · subst b; rcases Nat.lt_or_ge w 96 with c | c
    · exact (letI : Lane := ⟨0⟩; leafR (.cons (.int ..) (.cons (rg a (by omega)) (.cons (.int ..) .nil))) r96_3)
    · exact (letI : Lane := ⟨0⟩; leafR (.cons (.int ..) (.cons (rg c (by omega)) (.cons (.int ..) .nil))) r96_6)
  · rcases Nat.lt_or_ge w 96 with c | c
    · rcases Nat.lt_or_ge (w + m) 96 with d | d
      · exact leafE a b d r96_4
      · exact leafF a c d hm r96_5
    · exact (letI : Lane := ⟨0⟩; leafR (.cons (.int ..) (.cons (rg c (by omega)) (.cons (rg b (by omega)) .nil))) r96_7)
theorem all97 {w m : Nat} (hw : w < 101) (hm : m < 101) : Ok (.ofNat 97) (.ofNat w) (.ofNat m) := by
  rcases Nat.eq_zero_or_pos w with a | a <;> rcases Nat.eq_zero_or_pos m with b | b
  · subst a; subst b; exact (letI : Lane := ⟨0⟩; leafR (.cons (.int ..) (.cons (.int ..) (.cons (.int ..) .nil))) r97_0)
  · subst a; rcases Nat.lt_or_ge m 97 with c | c
    · exact (letI : Lane := ⟨0⟩; leafR (.cons (.int ..) (.cons (.int ..) (.cons (rg b (by omega)) .nil))) r97_1)
    · exact (letI : Lane := ⟨0⟩; leafR (.cons (.int ..) (.cons (.int ..) (.cons (rg c (by omega)) .nil))) r97_2)
  · subst b; rcases Nat.lt_or_ge w 97 with c | c
    · exact (letI : Lane := ⟨0⟩; leafR (.cons (.int ..) (.cons (rg a (by omega)) (.cons (.int ..) .nil))) r97_3)
    · exact (letI : Lane := ⟨0⟩; leafR (.cons (.int ..) (.cons (rg c (by omega)) (.cons (.int ..) .nil))) r97_6)
  · rcases Nat.lt_or_ge w 97 with c | c
    · rcases Nat.lt_or_ge (w + m) 97 with d | d
      · exact leafE a b d r97_4
      · exact leafF a c d hm r97_5
    · exact (letI : Lane := ⟨0⟩; leafR (.cons (.int ..) (.cons (rg c (by omega)) (.cons (rg b (by omega)) .nil))) r97_7)
theorem all98 {w m : Nat} (hw : w < 101) (hm : m < 101) : Ok (.ofNat 98) (.ofNat w) (.ofNat m) := by
  rcases Nat.eq_zero_or_pos w with a | a <;> rcases Nat.eq_zero_or_pos m with b | b
  · subst a; subst b; exact (letI : Lane := ⟨0⟩; leafR (.cons (.int ..) (.cons (.int ..) (.cons (.int ..) .nil))) r98_0)
  · subst a; rcases Nat.lt_or_ge m 98 with c | c
    · exact (letI : Lane := ⟨0⟩; leafR (.cons (.int ..) (.cons (.int ..) (.cons (rg b (by omega)) .nil))) r98_1)
    · exact (letI : Lane := ⟨0⟩; leafR (.cons (.int ..) (.cons (.int ..) (.cons (rg c (by omega)) .nil))) r98_2)
  · subst b; rcases Nat.lt_or_ge w 98 with c | c
    · exact (letI : Lane := ⟨0⟩; leafR (.cons (.int ..) (.cons (rg a (by omega)) (.cons (.int ..) .nil))) r98_3)
    · exact (letI : Lane := ⟨0⟩; leafR (.cons (.int ..) (.cons (rg c (by omega)) (.cons (.int ..) .nil))) r98_6)
  · rcases Nat.lt_or_ge w 98 with c | c
    · rcases Nat.lt_or_ge (w + m) 98 with d | d
      · exact leafE a b d r98_4
      · exact leafF a c d hm r98_5
    · exact (letI : Lane := ⟨0⟩; leafR (.cons (.int ..) (.cons (rg c (by omega)) (.cons (rg b (by omega)) .nil))) r98_7)
theorem all99 {w m : Nat} (hw : w < 101) (hm : m < 101) : Ok (.ofNat 99) (.ofNat w) (.ofNat m) := by
  rcases Nat.eq_zero_or_pos w with a | a <;> rcases Nat.eq_zero_or_pos m with b | b
  · subst a; subst b; exact (letI : Lane := ⟨0⟩; leafR (.cons (.int ..) (.cons (.int ..) (.cons (.int ..) .nil))) r99_0)
  · subst a; rcases Nat.lt_or_ge m 99 with c | c
    · exact (letI : Lane := ⟨0⟩; leafR (.cons (.int ..) (.cons (.int ..) (.cons (rg b (by omega)) .nil))) r99_1)
    · exact (letI : Lane := ⟨0⟩; leafR (.cons (.int ..) (.cons (.int ..) (.cons (rg c (by omega)) .nil))) r99_2)
  · subst b; rcases Nat.lt_or_ge w 99 with c | c
    · exact (letI : Lane := ⟨0⟩; leafR (.cons (.int ..) (.cons (rg a (by omega)) (.cons (.int ..) .nil))) r99_3)
    · exact (letI : Lane := ⟨0⟩; leafR (.cons (.int ..) (.cons (rg c (by omega)) (.cons (.int ..) .nil))) r99_6)
  · rcases Nat.lt_or_ge w 99 with c | c
    · rcases Nat.lt_or_ge (w + m) 99 with d | d
      · exact leafE a b d r99_4
      · exact leafF a c d hm r99_5
    · exact (letI : Lane := ⟨0⟩; leafR (.cons (.int ..) (.cons (rg c (by omega)) (.cons (rg b (by omega)) .nil))) r99_7)
theorem all100 {w m : Nat} (hw : w < 101) (hm : m < 101) : Ok (.ofNat 100) (.ofNat w) (.ofNat m) := by
  rcases Nat.eq_zero_or_pos w with a | a <;> rcases Nat.eq_zero_or_pos m with b | b
  · subst a; subst b; exact (letI : Lane := ⟨0⟩; leafR (.cons (.int ..) (.cons (.int ..) (.cons (.int ..) .nil))) r100_0)
  · subst a; rcases Nat.lt_or_ge m 100 with c | c
    · exact (letI : Lane := ⟨0⟩; leafR (.cons (.int ..) (.cons (.int ..) (.cons (rg b (by omega)) .nil))) r100_1)
    · exact (letI : Lane := ⟨0⟩; leafR (.cons (.int ..) (.cons (.int ..) (.cons (rg c (by omega)) .nil))) r100_2)
  · subst b; rcases Nat.lt_or_ge w 100 with c | c
    · exact (letI : Lane := ⟨0⟩; leafR (.cons (.int ..) (.cons (rg a (by omega)) (.cons (.int ..) .nil))) r100_3)
    · exact (letI : Lane := ⟨0⟩; leafR (.cons (.int ..) (.cons (rg c (by omega)) (.cons (.int ..) .nil))) r100_6)
  · rcases Nat.lt_or_ge w 100 with c | c
    · rcases Nat.lt_or_ge (w + m) 100 with d | d
      · exact leafE a b d r100_4
      · exact leafF a c d hm r100_5
    · exact (letI : Lane := ⟨0⟩; leafR (.cons (.int ..) (.cons (rg c (by omega)) (.cons (rg b (by omega)) .nil))) r100_7)
theorem allL {w m : Nat} (hw : w < 101) (hm : m < 101) : ∀ L : Nat, 1 ≤ L → L < 101 → Ok (.ofNat L) (.ofNat w) (.ofNat m)
  | 0, h, _ => absurd h (by omega)
  | 1, _, _ => all1 hw hm
  | 2, _, _ => all2 hw hm
  | 3, _, _ => all3 hw hm
  | 4, _, _ => all4 hw hm
  | 5, _, _ => all5 hw hm
  | 6, _, _ => all6 hw hm
  | 7, _, _ => all7 hw hm
  | 8, _, _ => all8 hw hm
  | 9, _, _ => all9 hw hm
  | 10, _, _ => all10 hw hm
  | 11, _, _ => all11 hw hm
  | 12, _, _ => all12 hw hm
  | 13, _, _ => all13 hw hm
  | 14, _, _ => all14 hw hm
  | 15, _, _ => all15 hw hm
  | 16, _, _ => all16 hw hm
  | 17, _, _ => all17 hw hm
  | 18, _, _ => all18 hw hm
  | 19, _, _ => all19 hw hm
  | 20, _, _ => all20 hw hm
  | 21, _, _ => all21 hw hm
  | 22, _, _ => all22 hw hm
  | 23, _, _ => all23 hw hm
  | 24, _, _ => all24 hw hm
  | 25, _, _ => all25 hw hm
  | 26, _, _ => all26 hw hm
  | 27, _, _ => all27 hw hm
  | 28, _, _ => all28 hw hm
  | 29, _, _ => all29 hw hm
  | 30, _, _ => all30 hw hm
  | 31, _, _ => all31 hw hm
  | 32, _, _ => all32 hw hm
  | 33, _, _ => all33 hw hm
  | 34, _, _ => all34 hw hm
  | 35, _, _ => all35 hw hm
  | 36, _, _ => all36 hw hm
  | 37, _, _ => all37 hw hm
  | 38, _, _ => all38 hw hm
  | 39, _, _ => all39 hw hm
  | 40, _, _ => all40 hw hm
  | 41, _, _ => all41 hw hm
  | 42, _, _ => all42 hw hm
  | 43, _, _ => all43 hw hm
  | 44, _, _ => all44 hw hm
  | 45, _, _ => all45 hw hm
  | 46, _, _ => all46 hw hm
  | 47, _, _ => all47 hw hm
  | 48, _, _ => all48 hw hm
  | 49, _, _ => all49 hw hm
  | 50, _, _ => all50 hw hm
  | 51, _, _ => all51 hw hm
  | 52, _, _ => all52 hw hm
  | 53, _, _ => all53 hw hm
  | 54, _, _ => all54 hw hm
  | 55, _, _ => all55 hw hm
  | 56, _, _ => all56 hw hm
  | 57, _, _ => all57 hw hm
  | 58, _, _ => all58 hw hm
  | 59, _, _ => all59 hw hm
  | 60, _, _ => all60 hw hm
  | 61, _, _ => all61 hw hm
  | 62, _, _ => all62 hw hm
  | 63, _, _ => all63 hw hm
  | 64, _, _ => all64 hw hm
  | 65, _, _ => all65 hw hm
  | 66, _, _ => all66 hw hm
  | 67, _, _ => all67 hw hm
  | 68, _, _ => all68 hw hm
  | 69, _, _ => all69 hw hm
  | 70, _, _ => all70 hw hm
  | 71, _, _ => all71 hw hm
  | 72, _, _ => all72 hw hm
  | 73, _, _ => all73 hw hm
  | 74, _, _ => all74 hw hm
  | 75, _, _ => all75 hw hm
  | 76, _, _ => all76 hw hm
  | 77, _, _ => all77 hw hm
  | 78, _, _ => all78 hw hm
  | 79, _, _ => all79 hw hm
  | 80, _, _ => all80 hw hm
  | 81, _, _ => all81 hw hm
  | 82, _, _ => all82 hw hm
  | 83, _, _ => all83 hw hm
  | 84, _, _ => all84 hw hm
  | 85, _, _ => all85 hw hm
  | 86, _, _ => all86 hw hm
  | 87, _, _ => all87 hw hm
  | 88, _, _ => all88 hw hm
  | 89, _, _ => all89 hw hm
  | 90, _, _ => all90 hw hm
  | 91, _, _ => all91 hw hm
  | 92, _, _ => all92 hw hm
  | 93, _, _ => all93 hw hm
  | 94, _, _ => all94 hw hm
  | 95, _, _ => all95 hw hm
  | 96, _, _ => all96 hw hm
  | 97, _, _ => all97 hw hm
  | 98, _, _ => all98 hw hm
  | 99, _, _ => all99 hw hm
  | 100, _, _ => all100 hw hm
  | n + 101, _, h => absurd h (by omega)
theorem runs (a0 a1 a2 : Int) : ∃ (L : Lane) (l : List SV), @VRs L (fun _ => none) l (#[.int .i64 a0, .int .i64 a1, .int .i64 a2] : Array Value).toList ∧ tst l = true := by
  show Ok a0 a1 a2
  rcases a0 with L | n
  · rcases Nat.eq_zero_or_pos L with rfl | h1
    · exact leaf0 (.cons (.int ..) (.cons (.int ..) (.cons (.int ..) .nil))) (o1 a1 a2)
    · rcases Nat.lt_or_ge L 101 with h2 | h2
      · rcases a1 with w | n
        · rcases Nat.lt_or_ge w 101 with hw | hw
          · rcases a2 with m | n
            · rcases Nat.lt_or_ge m 101 with hm | hm
              · exact allL hw hm L h1 h2
              · obtain ⟨n, rfl⟩ := Nat.exists_eq_add_of_le' hm
                exact (letI : Lane := ⟨0⟩; leafR (.cons (rg h1 (by omega)) (.cons (rg (Nat.zero_le _) (by omega)) (.cons (.int ..) .nil))) (o6 n))
            · exact (letI : Lane := ⟨0⟩; leafR (.cons (rg h1 (by omega)) (.cons (rg (Nat.zero_le _) (by omega)) (.cons (.int ..) .nil))) (o5 n))
          · obtain ⟨n, rfl⟩ := Nat.exists_eq_add_of_le' hw
            exact (letI : Lane := ⟨0⟩; leafR (.cons (rg h1 (by omega)) (.cons (.int ..) (.cons (.int ..) .nil))) (o4 n a2))
        · exact (letI : Lane := ⟨0⟩; leafR (.cons (rg h1 (by omega)) (.cons (.int ..) (.cons (.int ..) .nil))) (o3 n a2))
      · obtain ⟨n, rfl⟩ := Nat.exists_eq_add_of_le' h2
        exact leaf0 (.cons (.int ..) (.cons (.int ..) (.cons (.int ..) .nil))) (o2 n a1 a2)
  · exact leaf0 (.cons (.int ..) (.cons (.int ..) (.cons (.int ..) .nil))) (o0 n a1 a2)
theorem own : ownKnob Tryz.prog.godebug = none := by kernel_rfl
theorem calls (a0 : Int) (a1 : Int) (a2 : Int) (W : World) : Calls Tryz.prog 3 #[.int .i64 a0, .int .i64 a1, .int .i64 a2] W fun e W' => e = .returned (.bool true) ∧ Below W.heap.size W W' := by
  obtain ⟨L, l, hlr, ht_⟩ := runs a0 a1 a2
  obtain ⟨σ, hσ⟩ := isTrue_done ht_
  have hw : WR Tryz.prog (fun _ => none) ⟨Tryz.prog.globals.size, .nil, none⟩ W :=
    ⟨fun _ _ h => (by cases h), fun _ _ h => (by cases h), fun _ _ _ _ h => (by cases h), fun i hi => absurd (Tr.get_nil i) hi, fun _ _ _ h => (by cases h), Nat.le_refl _, fun _ _ h => (by cases h)⟩
  refine ((runQ_sound (extOk _) (by kernel_rfl) (OrcOk.or (orcTreeF_ok trFok) (OrcOk.or (orcSum_ok evSum.any) evBegun.ok)) 1000000).call 3 _ _ _ _ _ hσ _ #[.int .i64 a0, .int .i64 a1, .int .i64 a2] W hlr hw).mono fun e W' he => ?_
  obtain ⟨m', v', rfl, hv, hp⟩ := he
  cases hv
  exact ⟨rfl, hp.kp.os, hp.kp.tape, hp.kp.output, hp.kp.size, fun k hk => hp.kp.block k hk fun i im h _ => by cases h⟩
def laid : List (String × DataW Unit) := [("math/bits.deBruijn32tab", Rows.laid_math_bits_deBruijn32tab), ("math/bits.deBruijn64tab", Rows.laid_math_bits_deBruijn64tab), ("internal/strconv.uint64pow10", Rows.laid_internal_strconv_uint64pow10), ("unicode/utf8.acceptRanges", Rows.laid_unicode_utf8_acceptRanges), ("strconv.ErrRange", Rows.laid_strconv_ErrRange), ("strconv.ErrSyntax", Rows.laid_strconv_ErrSyntax), ("unicode/utf8.first", Rows.laid_unicode_utf8_first)]
theorem lifted (os : Os) (started : os.Started) (H : Type) (enc : TypeId × Value → H) :
    ReturnsInHanded {} Tryz.checked os 3 .any (fun w args => (Rows.persistTimesSpec.pre enc Tryz.prog Tryz.f3 [] false w args ∧ laidMetH Tryz.prog laid w) ∧ sizedMet enc Tryz.prog Tryz.f3 (OpenSpec.ofChange Rows.persistTimesSpec) false w args)
      (Rows.persistTimesSpec.post enc Tryz.prog Tryz.f3 false true false false) := by
  refine returnsInHanded_of_change_and (C := Tryz.checked) (X := fun w _ => laidMetH Tryz.prog laid w) (fun _ _ _ hh h => h.of_heap hh) own started (by kernel_rfl) Tryz.func3
    (ChangeSpec.witness_shaped (enc := enc) (C := Tryz.checked) (os := os) (X := fun w _ => laidMetH Tryz.prog laid w) false (World.laidAll Tryz.prog os laid) #[.int .i64 0, .int .i64 0, .int .i64 0] 8 (World.laidAll_os _ _ _)
      (World.shaped_of_ZipB (by kernel_rfl) (by kernel_rfl)) (by kernel_rfl) (by kernel_rfl) (by kernel_rfl)
      (by rw [MakeChecks.laidMetH_plain _ _ _ (by kernel_rfl)]; exact laidMet_laidAll _ (by kernel_rfl) (by kernel_rfl))) ?_
  intro W base args ds gs before hval0 hW _ _ _ _
  have hval : ∀ (j : Nat) t v, Tryz.f3.params[j]? = some t → args[j]? = some v → Value.okWide Tryz.prog W .any base t v := hval0
  have hW' := hW
  obtain ⟨p, q, hA0, hV, rfl, hfz, hnd⟩ := hW
  have hA : DataW.TrodAll enc Tryz.prog W 0 (fun _ => true) true Tryz.f3.params.toList args.toList ds p := hA0
  rw [Tryz.params3] at hA hval
  obtain ⟨v0, vs0, d0, ds0, p0, q0, hargs, rfl, rfl, h0, r0⟩ := trodAll_cons hA
  obtain ⟨v1, vs1, d1, ds1, p1, q1, rfl, rfl, rfl, h1, r1⟩ := trodAll_cons r0
  obtain ⟨v2, vs2, d2, ds2, p2, q2, rfl, rfl, rfl, h2, r2⟩ := trodAll_cons r1
  obtain ⟨rfl, rfl, rfl⟩ := trodAll_nil r2
  obtain rfl : args = #[v0, v1, v2] := by cases args; simp_all
  obtain ⟨rfl, rfl⟩ := trodVars_none hV
  obtain ⟨a0, rfl, rfl, rfl, w0⟩ := open_int Tryz.underlying3 (hval 0 3 v0 rfl rfl) h0
  obtain ⟨a1, rfl, rfl, rfl, w1⟩ := open_int Tryz.underlying3 (hval 1 3 v1 rfl rfl) h1
  obtain ⟨a2, rfl, rfl, rfl, w2⟩ := open_int Tryz.underlying3 (hval 2 3 v2 rfl rfl) h2
  refine (calls a0 a1 a2 W).mono fun e W' ⟨he, bel⟩ => ?_
  subst he
  exact ⟨_, rfl, _, _, _, [], _, [], hW', trodAll_mk1 (shut_bool Tryz.underlying4 _), (trodAll_cons_mk (shut_int Tryz.underlying3 w0) (trodAll_cons_mk (shut_int Tryz.underlying3 w1) (trodAll_cons_mk (shut_int Tryz.underlying3 w2) trodAll_mk0))), rfl, bel.frame _, fun h => by cases h⟩
theorem over : Rows.persistTimesRow.holds Tryz.pinned (OpenSpec.ofChange Rows.persistTimesSpec) :=
  OpenClaim.holds_of_wide 3 Tryz.f3 rfl rfl rfl rfl rfl rfl rfl ⟨rfl, rfl, rfl, rfl, rfl⟩ rfl rfl rfl rfl rfl (by kernel_rfl) Tryz.func3 (by kernel_rfl)
    (of_decide_eq_true (by kernel_rfl)) (by unfold Func.isWrapper; first | (rw [if_pos (by decide +kernel)]; kernel_rfl) | (rw [if_neg (by decide +kernel)]; exact ⟨rfl, rfl⟩))
    (fun os started H enc _ => lifted os started H enc)
theorem card : Rows.PersistTimesCardSaid :=
  Claim7.holds_tied_plain_at .later [] [.data, .data, .data, .data, .sentinel, .sentinel, .pinned] true (true, "f02dc41804f5ee49d353d8be29e783c57df7c368ecde1b0beca856d8d2b30824") true
    over (fun _ h => by cases h) (by kernel_rfl) (fun _ h => by cases h) persistTimes_row_tie rfl ⟨rfl, rfl⟩ (by kernel_rfl) rfl
    (fun f fn hf hfn => by
      obtain rfl : f = 3 := Option.some.inj ((show Tryz.prog.funcNamed Rows.persistTimesRow.func = some 3 from (by kernel_rfl)).symm.trans hf) |>.symm
      obtain rfl : fn = Tryz.f3 := (Option.some.inj (Tryz.func3.symm.trans hfn)).symm
      exact ⟨(by kernel_rfl), fun j t ht => by
        rw [Tryz.params3] at ht
        rcases j with _ | (_ | (_ | j))
        · obtain rfl : t = 3 := by simpa using ht.symm
          kernel_rfl
        · obtain rfl : t = 3 := by simpa using ht.symm
          kernel_rfl
        · obtain rfl : t = 3 := by simpa using ht.symm
          kernel_rfl
        · simp at ht⟩)
    (by kernel_rfl)
end Go.Proofs.YtakckpjalmmemaaGreatDoor.persistTimes
namespace Go.Proofs.YtakckpjalmmemaaGreatDoor
theorem persistTimes_holds : Rows.PersistTimesCardSaid := persistTimes.card
end Go.Proofs.YtakckpjalmmemaaGreatDoor
