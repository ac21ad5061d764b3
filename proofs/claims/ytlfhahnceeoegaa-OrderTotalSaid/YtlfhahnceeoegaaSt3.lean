/- OrderTotal: the order goes through; what is sorted is ordered, and a permutation (text 3 of 8) -/
import Derived.Test.YtlfhahnceeoegaaSt2
import Derived.Shelf.Small.Bits
import Derived.Shelf.Small.Wraps
import Derived.Test.YtlfhahnceeoegaaProg
namespace Go.Proofs.YtlfhahnceeoegaaW.PrintLast
end Go.Proofs.YtlfhahnceeoegaaW.PrintLast
namespace Go.Proofs.YtlfhahnceeoegaaW.PrintMore
end Go.Proofs.YtlfhahnceeoegaaW.PrintMore
namespace Go.Proofs.YtlfhahnceeoegaaW.PrintWords
end Go.Proofs.YtlfhahnceeoegaaW.PrintWords
section
namespace Go.Proofs.Ytlfhahnceeoegaa.All
open Go.RowKit Go.Proofs.YtlfhahnceeoegaaW.PrintWords Go.Proofs.YtlfhahnceeoegaaW.PrintLast Go.Proofs.YtlfhahnceeoegaaW.PrintMore
set_option linter.unusedVariables false
set_option linter.unusedSimpArgs false
def conciergeref2_blank.f (a0 : Int) : Option (Bool) := if a0 = 32 then (some true) else (if a0 = 9 then (some true) else (some (a0 == 13)))
set_option maxHeartbeats 8000000 in
set_option maxRecDepth 100000 in
theorem conciergeref2_blank.calls (a0 : Int) (r : Bool) (w : World) (h : conciergeref2_blank.f a0 = some r) :
  Calls Try.prog 51 #[.int .u8 a0] w fun e w' => e = .returned (.bool r) ∧ Drawn0 w w' := by
 have H : (if a0 = 32 then (some true) else (if a0 = 9 then (some true) else (some (a0 == 13)))) = some r := h
 clear h
 by_cases c2 : a0 = 32
 ·rw [if_pos c2] at H
  have c2b0 : (a0 == 32) = true := beq_iff_eq.mpr c2
  have c2b1 : (a0 != 32) = false := bne_eq_false_iff_eq.mpr c2
  clear c2
  obtain rfl := Option.some.inj H
  go_enter Try.func51, Try.ntmps51
  go_wp2
  go_ret
  exact ⟨s1_, by repeat (first | exact Drawn0.refl _ | apply Drawn0.step)⟩
 ·rw [if_neg c2] at H
  have c2b0 : (a0 == 32) = false := beq_eq_false_iff_ne.mpr c2
  have c2b1 : (a0 != 32) = true := bne_iff_ne.mpr c2
  by_cases c3 : a0 = 9
  ·rw [if_pos c3] at H
   have c3b0 : (a0 == 9) = true := beq_iff_eq.mpr c3
   have c3b1 : (a0 != 9) = false := bne_eq_false_iff_eq.mpr c3
   clear c3
   obtain rfl := Option.some.inj H
   go_enter Try.func51, Try.ntmps51
   go_wp2
   go_ret
   exact ⟨s1_, by repeat (first | exact Drawn0.refl _ | apply Drawn0.step)⟩
  ·rw [if_neg c3] at H
   have c3b0 : (a0 == 9) = false := beq_eq_false_iff_ne.mpr c3
   have c3b1 : (a0 != 9) = true := bne_iff_ne.mpr c3
   obtain rfl := Option.some.inj H
   go_enter Try.func51, Try.ntmps51
   go_wp2
   go_ret
   exact ⟨s1_, by repeat (first | exact Drawn0.refl _ | apply Drawn0.step)⟩
mutual
def conciergeref2_one.l0 : Nat → List Int → List ByteArray → ByteArray → Bool → Int → Option (List ByteArray)
 | 0, _, _, _, _, _ => none
 | k + 1, x0, x3, x4, x5, x6 => if x6 < (x0.length : Int) then (if 0 ≤ x6 then (if (rd x0 x6) < 32 then ((conciergeref2_blank.f (rd x0 x6)).bind fun t175 => (if t175 = true then (conciergeref2_one.j1 k x0 x3 x4 x5 x6 (rd x0 x6) (decide ((rd x0 x6) ≥ 127))) else (conciergeref2_one.j1 k x0 x3 x4 x5 x6 (rd x0 x6) true))) else (conciergeref2_one.j1 k x0 x3 x4 x5 x6 (rd x0 x6) (decide ((rd x0 x6) ≥ 127)))) else (none)) else (if x4.toList = ([] : List UInt8) then (some x3) else (if x3.length < 8796093022208 then (some (x3 ++ [x4])) else (none)))
def conciergeref2_one.j1 : Nat → List Int → List ByteArray → ByteArray → Bool → Int → Int → Bool → Option (List ByteArray)
 | 0, _, _, _, _, _, _, _ => none
 | k + 1, x0, x3, x4, x5, x6, x7, x31 => if x31 = true then (some ([] : List ByteArray)) else (if x5 = true then (conciergeref2_one.j2 k x0 x3 x4 true x6 x7) else (conciergeref2_one.j2 k x0 x3 x4 (x7 == 35) x6 x7))
def conciergeref2_one.j2 : Nat → List Int → List ByteArray → ByteArray → Bool → Int → Int → Option (List ByteArray)
 | 0, _, _, _, _, _, _ => none
 | k + 1, x0, x3, x4, x5, x6, x7 => if x5 = true then (conciergeref2_one.l0 k x0 x3 x4 x5 (wrap64 (x6 + 1))) else ((conciergeref2_blank.f x7).bind fun t176 => (if t176 = true then (if x4.toList = ([] : List UInt8) then (conciergeref2_one.l0 k x0 x3 (⟨#[]⟩ : ByteArray) x5 (wrap64 (x6 + 1))) else (if x3.length < 8796093022208 then (conciergeref2_one.l0 k x0 (x3 ++ [x4]) (⟨#[]⟩ : ByteArray) x5 (wrap64 (x6 + 1))) else (none))) else ((some (([x7] : List Int) : List Int)).bind fun y180 => (if x4.size + (strOfNums y180).size ≤ 9223372036854775807 then (conciergeref2_one.l0 k x0 x3 (x4 ++ (strOfNums y180)) x5 (wrap64 (x6 + 1))) else (none)))))
end
def conciergeref2_one.f (k : Nat) (l0 : List Int) : Option (List ByteArray) := if (l0.length : Int) > 512 then (some ([] : List ByteArray)) else (conciergeref2_one.l0 k l0 ([] : List ByteArray) (⟨#[]⟩ : ByteArray) false 0)
set_option maxHeartbeats 8000000 in
set_option maxRecDepth 100000 in
theorem conciergeref2_one.calls (k : Nat) (A0 : Option Addr) (c0 : Nat) (l0 : List Int) (r : List ByteArray) (w : World) (hr0 : Kd.C (Kd.int .u8) w A0 l0.length l0) (hc0 : l0.length ≤ c0) (h : conciergeref2_one.f k l0 = some r) :
  Calls Try.prog 38 #[.slice A0 l0.length c0] w fun e w' => ∃ v0_ : Value, e = .returned (v0_) ∧ Kd.R Kd.string 9 w' w.heap.size (fun _ => True) v0_ r ∧ Below w.heap.size w w' := by
 have HR0 := Aside0.mk hr0
 have HC0 := Aside0.mk hc0
 clear hr0 hc0
 have HB := Aside0.mk (Below.refl w.heap.size w)
 have H : (if (l0.length : Int) > 512 then (some ([] : List ByteArray)) else (conciergeref2_one.l0 k l0 ([] : List ByteArray) (⟨#[]⟩ : ByteArray) false 0)) = some r := h
 clear h
 by_cases c2 : (l0.length : Int) > 512
 ·rw [if_pos c2] at H
  have c2b0 : decide (512 < (l0.length : Int)) = true := decide_eq_true c2
  have c2b1 : decide (512 < l0.length) = true := decide_eq_true (by omega)
  clear c2
  obtain rfl := Option.some.inj H
  go_enter Try.func38, Try.ntmps38
  go_wp2
  go_ret
  exact ⟨_, by first | rfl | (simp [errW_none, errW_some] <;> rfl) | (simp [*, errW_none, errW_some] <;> rfl), by first | exact Kd.R_nil _ _ _ _ _ | exact Kd.N_nil _ _ _ _ _ | exact Kd.V_nil _ _ _ _ _ | exact Kd.Q_nil _ _ _ _ _ | exact Kd.S_nil _ _ _ _ _, (fB0)⟩
 ·rw [if_neg c2] at H
  have c2b0 : decide (512 < (l0.length : Int)) = false := decide_eq_false c2
  have c2b1 : decide (512 < l0.length) = false := decide_eq_false (by omega)
  clear c2
  have H' := Aside0.mk H
  clear H
  go_enter Try.func38, Try.ntmps38
  go_wp2
  go_loopg [3, 4, 5, 6] k (fun kq v3 v4 v5 v6 w' => ∃ (x3_1 : List ByteArray) (x4_1 : ByteArray) (x5_1 : Bool) (x6_1 : Int), v4 = .string x4_1 ∧ v5 = .bool x5_1 ∧ v6 = .int .i64 x6_1 ∧ Aside0 (conciergeref2_one.l0 kq l0 x3_1 x4_1 x5_1 x6_1 = some r) ∧ Aside0 (kq ≤ k) ∧ Aside0 (Kd.R Kd.string 9 w' w.heap.size (fun _ => True) v3 x3_1) ∧ Aside0 (Below w.heap.size w w'))
  case atStart => exact ⟨(([] : List ByteArray)), ((⟨#[]⟩ : ByteArray)), (false), (0), s1_, s1_, s1_, H', ⟨Nat.le_refl _⟩, ⟨by first | exact Kd.R_nil _ _ _ _ _ | exact Kd.N_nil _ _ _ _ _ | exact Kd.V_nil _ _ _ _ _ | exact Kd.Q_nil _ _ _ _ _ | exact Kd.S_nil _ _ _ _ _⟩, ⟨(fB0)⟩⟩
  case round =>
   clear H'
   try clear c2
   try clear c2b0
   try clear c2b1
   try clear p2
   obtain ⟨x3_1, x4_1, x5_1, x6_1, rfl, rfl, rfl, HA, HK1, HO_3, HB⟩ := hrel
   cases gk with
   | zero => exact absurd HA.out (by simp [conciergeref2_one.l0])
   | succ k1 =>
    have H := HA.out
    clear HA
    simp only [conciergeref2_one.l0] at H
    by_cases c3 : x6_1 < (l0.length : Int)
    ·rw [if_pos c3] at H
     have c3b0 : decide (x6_1 < (l0.length : Int)) = true := decide_eq_true c3
     clear c3
     by_cases c4 : 0 ≤ x6_1
     ·rw [if_pos c4] at H
      have c4b0 : decide (0 ≤ x6_1) = true := decide_eq_true c4
      clear c4
      have HC5 := Aside0.mk H
      clear H
      have p174 : 0 ≤ (x6_1 : Int) := of_decide_eq_true (by first | (with_reducible assumption) | assumption)
      have q174 : x6_1 < (l0.length : Int) := of_decide_eq_true (by first | (with_reducible assumption) | assumption)
      obtain ⟨ad174, e174, hx174_0⟩ := Kd.at_int HR0.out x6_1 p174 q174
      cases e174
      replace hx174_0 := (HB.out.cell (World.block_lt_of_cell? w _ hx174_0)).trans hx174_0
      replace p174 := eq_true p174
      replace q174 := eq_true q174
      go_upto_region 10 with (fail)
      go_cut [31] (fun v31 wc => ∃ (kq : Nat) (x31_4 : Bool), v31 = .bool x31_4 ∧ Aside0 (conciergeref2_one.j1 kq l0 x3_1 x4_1 x5_1 x6_1 (rd l0 x6_1) x31_4 = some r) ∧ Aside0 (kq ≤ k1) ∧ Aside0 (Kd.R Kd.string 9 wc w.heap.size (fun _ => True) u3 x3_1) ∧ Aside0 (Below w.heap.size w wc))
      case first =>
       have H := HC5.out
       clear HC5
       by_cases c6 : (rd l0 x6_1) < 32
       ·rw [if_pos c6] at H
        have c6b0 : decide ((rd l0 x6_1) < 32) = true := decide_eq_true c6
        clear c6
        (first | rw [c6b0] | (simp only [i64_w, i32_w]; rw [c6b0]) | skip)
        replace H := Option.bind_eq_some_iff.mp H
        obtain ⟨t175, A70, H⟩ := H
        have A7 := Aside0.mk A70
        clear A70
        by_cases c8 : t175 = true
        ·subst c8
         rw [if_pos rfl] at H
         have H' := Aside0.mk H
         clear H
         go_wp2_with (first | (go_at_call 51; (with_reducible refine (conciergeref2_blank.calls (rd l0 x6_1) true _ A7.out).mono ?_); rintro e w' ⟨rfl, ⟨nd, rfl⟩⟩))
         go_meet
         case rel => exact ⟨_, (decide ((rd l0 x6_1) ≥ 127)), s1_, H', ⟨by have := HK1.out; first | omega | exact Nat.le_refl _⟩, ⟨(fA0 HO_3)⟩, ⟨(fB0)⟩⟩
        ·replace c8 := Bool.eq_false_iff.mpr c8
         subst c8
         rw [if_neg (show ¬ (false = true) by decide)] at H
         have H' := Aside0.mk H
         clear H
         go_wp2_with (first | (go_at_call 51; (with_reducible refine (conciergeref2_blank.calls (rd l0 x6_1) false _ A7.out).mono ?_); rintro e w' ⟨rfl, ⟨nd, rfl⟩⟩))
         go_meet
         case rel => exact ⟨_, (true), s1_, H', ⟨by have := HK1.out; first | omega | exact Nat.le_refl _⟩, ⟨(fA0 HO_3)⟩, ⟨(fB0)⟩⟩
       ·rw [if_neg c6] at H
        have c6b0 : decide ((rd l0 x6_1) < 32) = false := decide_eq_false c6
        clear c6
        (first | rw [c6b0] | (simp only [i64_w, i32_w]; rw [c6b0]) | skip)
        have H' := Aside0.mk H
        clear H
        go_wp2
        go_meet
        case rel => exact ⟨_, (decide ((rd l0 x6_1) ≥ 127)), s1_, H', ⟨by have := HK1.out; first | omega | exact Nat.le_refl _⟩, ⟨(fA0 HO_3)⟩, ⟨(fB0)⟩⟩
      case rest =>
       clear HC5
       try clear p1
       try clear q1
       try clear hx1
       try clear c2
       try clear c2b0
       try clear c2b1
       try clear p2
       try clear c3
       try clear c3b0
       try clear c4
       try clear c4b0
       try clear c6
       try clear c6b0
       try clear c8
       try clear hx174_0
       try clear p174
       try clear p2
       try clear q174
       obtain ⟨kq, x31_4, rfl, HA, HJ4, HO_3, HB⟩ := hcut
       cases kq with
       | zero => exact absurd HA.out (by simp [conciergeref2_one.j1])
       | succ kj4 =>
        have H := HA.out
        clear HA
        simp only [conciergeref2_one.j1] at H
        by_cases c9 : x31_4 = true
        ·subst c9
         rw [if_pos rfl] at H
         obtain rfl := Option.some.inj H
         go_wp2
         go_ret
         exact ⟨_, by first | rfl | (simp [errW_none, errW_some] <;> rfl) | (simp [*, errW_none, errW_some] <;> rfl), by first | exact Kd.R_nil _ _ _ _ _ | exact Kd.N_nil _ _ _ _ _ | exact Kd.V_nil _ _ _ _ _ | exact Kd.Q_nil _ _ _ _ _ | exact Kd.S_nil _ _ _ _ _, (fB0)⟩
        ·replace c9 := Bool.eq_false_iff.mpr c9
         subst c9
         rw [if_neg (show ¬ (false = true) by decide)] at H
         have HC10 := Aside0.mk H
         clear H
         go_upto_region 12 with (fail)
         go_cut [5] (fun v5 wc => ∃ (kq : Nat) (x5_9 : Bool), v5 = .bool x5_9 ∧ Aside0 (conciergeref2_one.j2 kq l0 x3_1 x4_1 x5_9 x6_1 (rd l0 x6_1) = some r) ∧ Aside0 (kq ≤ kj4) ∧ Aside0 (Kd.R Kd.string 9 wc w.heap.size (fun _ => True) u3 x3_1) ∧ Aside0 (Below w.heap.size w wc))
         case first =>
          have H := HC10.out
          clear HC10
          by_cases c11 : x5_1 = true
          ·subst c11
           rw [if_pos rfl] at H
           have H' := Aside0.mk H
           clear H
           go_wp2
           go_meet
           case rel => exact ⟨_, (true), s1_, H', ⟨by have := HK1.out; have := HJ4.out; first | omega | exact Nat.le_refl _⟩, ⟨(fA0 HO_3)⟩, ⟨(fB0)⟩⟩
          ·replace c11 := Bool.eq_false_iff.mpr c11
           subst c11
           rw [if_neg (show ¬ (false = true) by decide)] at H
           have H' := Aside0.mk H
           clear H
           go_wp2
           go_meet
           case rel => exact ⟨_, (((rd l0 x6_1) == 35)), s1_, H', ⟨by have := HK1.out; have := HJ4.out; first | omega | exact Nat.le_refl _⟩, ⟨(fA0 HO_3)⟩, ⟨(fB0)⟩⟩
         case rest =>
          clear HC10
          try clear c1
          try clear p1
          try clear q1
          try clear hx1
          try clear c2
          try clear c2b0
          try clear c2b1
          try clear p2
          try clear c3
          try clear c3b0
          try clear c4
          try clear c4b0
          try clear c6
          try clear c6b0
          try clear c8
          try clear c9
          try clear c11
          try clear hx174_0
          try clear p1
          try clear p174
          try clear p2
          try clear q1
          try clear q174
          obtain ⟨kq, x5_9, rfl, HA, HJ9, HO_3, HB⟩ := hcut
          cases kq with
          | zero => exact absurd HA.out (by simp [conciergeref2_one.j2])
          | succ kj9 =>
           have H := HA.out
           clear HA
           simp only [conciergeref2_one.j2] at H
           by_cases c12 : x5_9 = true
           ·subst c12
            rw [if_pos rfl] at H
            have H' := Aside0.mk H
            clear H
            go_wp2
            go_roundg kj9
            case measure => have := HK1.out; have := HJ4.out; have := HJ9.out; omega
            case rel => exact ⟨(x3_1), (x4_1), (true), (wrap64 (x6_1 + 1)), s1_, s1_, s1_, H', ⟨by have := HK1.out; have := HJ4.out; have := HJ9.out; omega⟩, ⟨(fA0 HO_3)⟩, ⟨(fB0)⟩⟩
           ·replace c12 := Bool.eq_false_iff.mpr c12
            subst c12
            rw [if_neg (show ¬ (false = true) by decide)] at H
            replace H := Option.bind_eq_some_iff.mp H
            obtain ⟨t176, A130, H⟩ := H
            have A13 := Aside0.mk A130
            clear A130
            by_cases c14 : t176 = true
            ·subst c14
             rw [if_pos rfl] at H
             by_cases c15 : x4_1.toList = ([] : List UInt8)
             ·rw [if_pos c15] at H
              have c15b0 : (x4_1.toList == ([] : List UInt8)) = true := beq_iff_eq.mpr c15
              have c15b1 : (x4_1.toList != ([] : List UInt8)) = false := bne_eq_false_iff_eq.mpr c15
              clear c15
              have H' := Aside0.mk H
              clear H
              go_wp2_with (first | ((with_reducible refine gate_callee (f := 51) rfl ?_); refine goesL_ (some 39) rfl rfl Try.func51 (by kernel_rfl) rfl #[.int .u8 (rd l0 x6_1)] rfl s2_ ?_; (with_reducible refine (conciergeref2_blank.calls (rd l0 x6_1) true _ A13.out).mono ?_); rintro e w' ⟨rfl, ⟨nd, rfl⟩⟩; refine ⟨_, rfl, ?_⟩))
              go_roundg kj9
              case measure => have := HK1.out; have := HJ4.out; have := HJ9.out; omega
              case rel => exact ⟨(x3_1), ((⟨#[]⟩ : ByteArray)), (false), (wrap64 (x6_1 + 1)), s1_, s1_, s1_, H', ⟨by have := HK1.out; have := HJ4.out; have := HJ9.out; omega⟩, ⟨(fA0 HO_3)⟩, ⟨(fB0)⟩⟩
             ·rw [if_neg c15] at H
              have c15b0 : (x4_1.toList == ([] : List UInt8)) = false := beq_eq_false_iff_ne.mpr c15
              have c15b1 : (x4_1.toList != ([] : List UInt8)) = true := bne_iff_ne.mpr c15
              by_cases c16 : x3_1.length < 8796093022208
              ·rw [if_pos c16] at H
               have LMc16 := Aside0.mk c16
               clear c16
               obtain ⟨y177, hy177⟩ : ∃ y_ : List ByteArray, y_ = (x3_1 ++ [x4_1]) := ⟨_, rfl⟩
               replace H : (conciergeref2_one.l0 kj9 l0 y177 (⟨#[]⟩ : ByteArray) false (wrap64 (x6_1 + 1))) = some r := by first | (rw [hy177]; with_reducible exact H) | (have H2_ := (Option.bind_some _ _).symm.trans H; rw [hy177]; with_reducible exact H2_) | (have H2_ := (Option.bind_some _ _).symm.trans H; with_reducible exact H2_) | with_reducible exact H | (rw [hy177]; exact H) | exact H
               have Ny177 := Aside0.mk hy177
               clear hy177
               have H' := Aside0.mk H
               clear H
               go_wp2_with (first | ((with_reducible refine gate_callee (f := 51) rfl ?_); refine goesL_ (some 39) rfl rfl Try.func51 (by kernel_rfl) rfl #[.int .u8 (rd l0 x6_1)] rfl s2_ ?_; (with_reducible refine (conciergeref2_blank.calls (rd l0 x6_1) true _ A13.out).mono ?_); rintro e w' ⟨rfl, ⟨nd, rfl⟩⟩; refine ⟨_, rfl, ?_⟩) | ((with_reducible refine gate_builtin (b := .append) (xs := #[.tmp 42, .tmp 44]) rfl ?_); at_builtin; refine Kd.R_append Kd.string (w0 := w) w.heap.size rfl (.tmp 42) (.tmp 44) 26 9 (.string ⟨#[]⟩) 16 rfl Try.underlying26 info9 rfl (by decide) (by omega) u3 x3_1 x4_1 [.string x4_1] (fun _ => True) (fun _ => False) rfl rfl ?aP (fun _ hk => hk.elim) ?aF ?aO ?aB ?aS ?aL ?_; (case aP => exact rfl); (case aB => exact (fB0)); (case aF => exact (fun _ _ => trivial)); (case aO => exact (fA0 HO_3)); (case aS => exact (below_size (fB0))); (case aL => have := LMc16.out; omega); intro v178 w17 ho hb hg hat; rw [← Ny177.out] at ho; have n0_ := Aside0.mk (hb); have n1_ := Aside0.mk (ho); clear HB; clear HO_3; have HB := n0_; have HO179 := n1_; clear n0_ n1_; clear ho hb hg hat))
               go_roundg kj9
               case measure => have := HK1.out; have := HJ4.out; have := HJ9.out; omega
               case rel => exact ⟨(y177), ((⟨#[]⟩ : ByteArray)), (false), (wrap64 (x6_1 + 1)), s1_, s1_, s1_, H', ⟨by have := HK1.out; have := HJ4.out; have := HJ9.out; omega⟩, ⟨(fA0 HO179)⟩, ⟨(fB0)⟩⟩
              ·rw [if_neg c16] at H
               exact absurd H (by simp)
            ·replace c14 := Bool.eq_false_iff.mpr c14
             subst c14
             rw [if_neg (show ¬ (false = true) by decide)] at H
             obtain ⟨y180, hy180⟩ : ∃ y_ : List Int, y_ = (([(rd l0 x6_1)] : List Int)) := ⟨_, rfl⟩
             replace H : (if x4_1.size + (strOfNums y180).size ≤ 9223372036854775807 then (conciergeref2_one.l0 kj9 l0 x3_1 (x4_1 ++ (strOfNums y180)) false (wrap64 (x6_1 + 1))) else (none)) = some r := by first | (rw [hy180]; with_reducible exact H) | (have H2_ := (Option.bind_some _ _).symm.trans H; rw [hy180]; with_reducible exact H2_) | (have H2_ := (Option.bind_some _ _).symm.trans H; with_reducible exact H2_) | with_reducible exact H | (rw [hy180]; exact H) | exact H
             have Ny180 := Aside0.mk hy180
             clear hy180
             by_cases c18 : x4_1.size + (strOfNums y180).size ≤ 9223372036854775807
             ·rw [if_pos c18] at H
              have c18b0 := eq_true c18
              have c18b1 : decide (x4_1.size + (strOfNums y180).size ≤ 9223372036854775807) = true := decide_eq_true c18
              try have c18b2 : (9223372036854775807 < x4_1.size + (strOfNums y180).size) = False := eq_false (Nat.not_lt.2 c18)
              have H' := Aside0.mk H
              clear H
              go_wp2_with (first | ((with_reducible refine gate_callee (f := 51) rfl ?_); refine goesL_ (some 39) rfl rfl Try.func51 (by kernel_rfl) rfl #[.int .u8 (rd l0 x6_1)] rfl s2_ ?_; (with_reducible refine (conciergeref2_blank.calls (rd l0 x6_1) false _ A13.out).mono ?_); rintro e w' ⟨rfl, ⟨nd, rfl⟩⟩; refine ⟨_, rfl, ?_⟩) | ((with_reducible refine gate_dst (N := 48) rfl ?_); refine Kd.R_lit (Kd.int .u8) _ 5 ?hg (N := 48) ?hd (xs := ([(rd l0 x6_1)] : List Int)) (inner := [.int .u8 (rd l0 x6_1)]) (ok := fun _ => True) (okp := fun _ => True) ?hr ?hp (fun _ hk => hk) trivial (Below.refl _ _) (Nat.le_refl _) (by simp) ?_; (case hd => rfl); (case hg => rfl); (case hr => first | (go_simp; done) | (go_simp; rfl)); (case hp => exact (Reps.one (show Kd.M (Kd.int .u8) _ _ _ (rd l0 x6_1) [.int .u8 (rd l0 x6_1)] from rfl) (Reps.none _ _))); intro v181 w19 ho20 hb hg_ hnew_; clear hg_ hnew_; (first | rw [← Ny180.out] at ho20 | (simp only [Int.reduceToNat] at ho20; rw [← Ny180.out] at ho20)); have n0_ := Aside0.mk (Kd.R_below (fA0 HO_3) hb); have n1_ := Aside0.mk (Kd.R_lower ho20 (below_size (fB0))); have n2_ := Aside0.mk (below_step (fB0) hb); clear HO_3; clear HB; have HO_3 := n0_; have HO182 := n1_; have HB := n2_; clear n0_ n1_ n2_; clear hb ho20; have hcv21 := own_string (P := Try.prog) Try.underlying22 Try.underlying5 Try.underlying9 (Kd.own_of_R HO182.out)))
              go_roundg kj9
              case measure => have := HK1.out; have := HJ4.out; have := HJ9.out; omega
              case rel => exact ⟨(x3_1), (x4_1 ++ (strOfNums y180)), (false), (wrap64 (x6_1 + 1)), s1_, s1_, s1_, H', ⟨by have := HK1.out; have := HJ4.out; have := HJ9.out; omega⟩, ⟨(fA0 HO_3)⟩, ⟨(fB0)⟩⟩
             ·rw [if_neg c18] at H
              exact absurd H (by simp)
     ·rw [if_neg c4] at H
      exact absurd H (by simp)
    ·rw [if_neg c3] at H
     have c3b0 : decide (x6_1 < (l0.length : Int)) = false := decide_eq_false c3
     clear c3
     by_cases c22 : x4_1.toList = ([] : List UInt8)
     ·rw [if_pos c22] at H
      have c22b0 : (x4_1.toList == ([] : List UInt8)) = true := beq_iff_eq.mpr c22
      have c22b1 : (x4_1.toList != ([] : List UInt8)) = false := bne_eq_false_iff_eq.mpr c22
      clear c22
      obtain rfl := Option.some.inj H
      go_wp2
      go_ret
      exact ⟨_, by first | rfl | (simp [errW_none, errW_some] <;> rfl) | (simp [*, errW_none, errW_some] <;> rfl), (fA0 HO_3), (fB0)⟩
     ·rw [if_neg c22] at H
      have c22b0 : (x4_1.toList == ([] : List UInt8)) = false := beq_eq_false_iff_ne.mpr c22
      have c22b1 : (x4_1.toList != ([] : List UInt8)) = true := bne_iff_ne.mpr c22
      by_cases c23 : x3_1.length < 8796093022208
      ·rw [if_pos c23] at H
       have LMc23 := Aside0.mk c23
       clear c23
       obtain ⟨y171, hy171⟩ : ∃ y_ : List ByteArray, y_ = (x3_1 ++ [x4_1]) := ⟨_, rfl⟩
       replace H : (some y171) = some r := by first | (rw [hy171]; with_reducible exact H) | (have H2_ := (Option.bind_some _ _).symm.trans H; rw [hy171]; with_reducible exact H2_) | (have H2_ := (Option.bind_some _ _).symm.trans H; with_reducible exact H2_) | with_reducible exact H | (rw [hy171]; exact H) | exact H
       have Ny171 := Aside0.mk hy171
       clear hy171
       obtain rfl := Option.some.inj H
       go_wp2_with (first | ((with_reducible refine gate_builtin (b := .append) (xs := #[.tmp 53, .tmp 55]) rfl ?_); at_builtin; refine Kd.R_append Kd.string (w0 := w) w.heap.size rfl (.tmp 53) (.tmp 55) 26 9 (.string ⟨#[]⟩) 16 rfl Try.underlying26 info9 rfl (by decide) (by omega) u3 x3_1 x4_1 [.string x4_1] (fun _ => True) (fun _ => False) rfl rfl ?aP (fun _ hk => hk.elim) ?aF ?aO ?aB ?aS ?aL ?_; (case aP => exact rfl); (case aB => exact (fB0)); (case aF => exact (fun _ _ => trivial)); (case aO => exact (fA0 HO_3)); (case aS => exact (below_size (fB0))); (case aL => have := LMc23.out; omega); intro v172 w24 ho hb hg hat; rw [← Ny171.out] at ho; have n0_ := Aside0.mk (hb); have n1_ := Aside0.mk (ho); clear HB; clear HO_3; have HB := n0_; have HO173 := n1_; clear n0_ n1_; clear ho hb hg hat))
       go_ret
       exact ⟨_, by first | rfl | (simp [errW_none, errW_some] <;> rfl) | (simp [*, errW_none, errW_some] <;> rfl), (fA0 HO173), (fB0)⟩
      ·rw [if_neg c23] at H
       exact absurd H (by simp)
mutual
def conciergeref2_Lines.l0 : Nat → List Int → List (S48) → Int → Int → Int → Option ((List (S48)))
 | 0, _, _, _, _, _ => none
 | k + 1, x0, x3, x4, x5, x6 => if x6 ≤ (x0.length : Int) then (if x6 < (x0.length : Int) then (if 0 ≤ x6 then (conciergeref2_Lines.j1 k x0 x3 x4 x5 x6 ((rd x0 x6) != 10)) else (none)) else (conciergeref2_Lines.j1 k x0 x3 x4 x5 x6 false)) else (some x3)
def conciergeref2_Lines.j1 : Nat → List Int → List (S48) → Int → Int → Int → Bool → Option ((List (S48)))
 | 0, _, _, _, _, _, _ => none
 | k + 1, x0, x3, x4, x5, x6, x24 => if x24 = true then (conciergeref2_Lines.l0 k x0 x3 x4 x5 (wrap64 (x6 + 1))) else (if 0 ≤ x5 then (if x5 ≤ x6 then (if x6 ≤ (x0.length : Int) then ((conciergeref2_one.f k ((x0.take (x6 : Int).toNat).drop (x5 : Int).toNat)).bind fun t185 => (if (t185.length : Int) > 0 then (if x3.length < 4398046511104 then (conciergeref2_Lines.l0 k x0 (x3 ++ [(⟨wrap64 (x4 + 1), t185⟩ : S48)]) (wrap64 (x4 + 1)) (wrap64 (x6 + 1)) (wrap64 (x6 + 1))) else (none)) else (conciergeref2_Lines.l0 k x0 x3 (wrap64 (x4 + 1)) (wrap64 (x6 + 1)) (wrap64 (x6 + 1))))) else (none)) else (none)) else (none))
end
def conciergeref2_Lines.f (k : Nat) (l0 : List Int) : Option ((List (S48))) := conciergeref2_Lines.l0 k l0 ([] : List (S48)) 0 0 0
set_option maxHeartbeats 8000000 in
set_option maxRecDepth 100000 in
theorem conciergeref2_Lines.calls (k : Nat) (A0 : Option Addr) (c0 : Nat) (l0 : List Int) (r : List (S48)) (w : World) (hr0 : Kd.C (Kd.int .u8) w A0 l0.length l0) (hc0 : l0.length ≤ c0) (h : conciergeref2_Lines.f k l0 = some r) :
  Calls Try.prog 21 #[.slice A0 l0.length c0] w fun e w' => ∃ v0_ : Value, e = .returned (v0_) ∧ Kd.S k48 48 w' w.heap.size (fun _ => True) v0_ r ∧ Below w.heap.size w w' := by
 have hu48 := Try.underlying48
 have HR0 := Aside0.mk hr0
 have HC0 := Aside0.mk hc0
 clear hr0 hc0
 have HB := Aside0.mk (Below.refl w.heap.size w)
 have H : (conciergeref2_Lines.l0 k l0 ([] : List (S48)) 0 0 0) = some r := h
 clear h
 have H' := Aside0.mk H
 clear H
 go_enter Try.func21, Try.ntmps21
 go_wp2
 go_loopg [3, 4, 5, 6] k (fun kq v3 v4 v5 v6 w' => ∃ (x3_1 : List (S48)) (x4_1 : Int) (x5_1 : Int) (x6_1 : Int), v4 = .int .i64 x4_1 ∧ v5 = .int .i64 x5_1 ∧ v6 = .int .i64 x6_1 ∧ Aside0 (conciergeref2_Lines.l0 kq l0 x3_1 x4_1 x5_1 x6_1 = some r) ∧ Aside0 (kq ≤ k) ∧ Aside0 (Kd.S k48 48 w' w.heap.size (fun _ => True) v3 x3_1) ∧ Aside0 (Below w.heap.size w w'))
 case atStart => exact ⟨(([] : List (S48))), (0), (0), (0), s1_, s1_, s1_, H', ⟨Nat.le_refl _⟩, ⟨by first | exact Kd.S_nil _ _ _ _ _ | exact Kd.N_nil _ _ _ _ _ | exact Kd.V_nil _ _ _ _ _ | exact Kd.Q_nil _ _ _ _ _ | exact Kd.R_nil _ _ _ _ _⟩, ⟨(fB0)⟩⟩
 case round =>
  clear H'
  obtain ⟨x3_1, x4_1, x5_1, x6_1, rfl, rfl, rfl, HA, HK1, HO_3, HB⟩ := hrel
  cases gk with
  | zero => exact absurd HA.out (by simp [conciergeref2_Lines.l0])
  | succ k1 =>
   have H := HA.out
   clear HA
   simp only [conciergeref2_Lines.l0] at H
   by_cases c2 : x6_1 ≤ (l0.length : Int)
   ·rw [if_pos c2] at H
    have c2b0 : decide (x6_1 ≤ (l0.length : Int)) = true := decide_eq_true c2
    clear c2
    have HC3 := Aside0.mk H
    clear H
    go_upto_region 6 with (fail)
    go_cut [24] (fun v24 wc => ∃ (kq : Nat) (x24_2 : Bool), v24 = .bool x24_2 ∧ Aside0 (conciergeref2_Lines.j1 kq l0 x3_1 x4_1 x5_1 x6_1 x24_2 = some r) ∧ Aside0 (kq ≤ k1) ∧ Aside0 (Kd.S k48 48 wc w.heap.size (fun _ => True) u3 x3_1) ∧ Aside0 (Below w.heap.size w wc))
    case first =>
     have H := HC3.out
     clear HC3
     by_cases c4 : x6_1 < (l0.length : Int)
     ·rw [if_pos c4] at H
      have c4b0 : decide (x6_1 < (l0.length : Int)) = true := decide_eq_true c4
      clear c4
      (first | rw [c4b0] | (simp only [i64_w, i32_w]; rw [c4b0]) | skip)
      by_cases c5 : 0 ≤ x6_1
      ·rw [if_pos c5] at H
       have c5b0 : decide (0 ≤ x6_1) = true := decide_eq_true c5
       clear c5
       have H' := Aside0.mk H
       clear H
       have p183 : 0 ≤ (x6_1 : Int) := of_decide_eq_true (by first | (with_reducible assumption) | assumption)
       have q183 : x6_1 < (l0.length : Int) := of_decide_eq_true (by first | (with_reducible assumption) | assumption)
       obtain ⟨ad183, e183, hx183_0⟩ := Kd.at_int HR0.out x6_1 p183 q183
       cases e183
       replace hx183_0 := (HB.out.cell (World.block_lt_of_cell? w _ hx183_0)).trans hx183_0
       replace p183 := eq_true p183
       replace q183 := eq_true q183
       go_wp2
       go_meet
       case rel => exact ⟨_, (((rd l0 x6_1) != 10)), s1_, H', ⟨by have := HK1.out; first | omega | exact Nat.le_refl _⟩, ⟨(fA2 HO_3)⟩, ⟨(fB0)⟩⟩
      ·rw [if_neg c5] at H
       exact absurd H (by simp)
     ·rw [if_neg c4] at H
      have c4b0 : decide (x6_1 < (l0.length : Int)) = false := decide_eq_false c4
      clear c4
      (first | rw [c4b0] | (simp only [i64_w, i32_w]; rw [c4b0]) | skip)
      have H' := Aside0.mk H
      clear H
      go_wp2
      go_meet
      case rel => exact ⟨_, (false), s1_, H', ⟨by have := HK1.out; first | omega | exact Nat.le_refl _⟩, ⟨(fA2 HO_3)⟩, ⟨(fB0)⟩⟩
    case rest =>
     clear HC3
     try clear p1
     try clear q1
     try clear hx1
     try clear c2
     try clear c2b0
     try clear p2
     try clear c4
     try clear c4b0
     try clear c5
     try clear c5b0
     try clear hx183_0
     try clear p183
     try clear q183
     obtain ⟨kq, x24_2, rfl, HA, HJ2, HO_3, HB⟩ := hcut
     cases kq with
     | zero => exact absurd HA.out (by simp [conciergeref2_Lines.j1])
     | succ kj2 =>
      have H := HA.out
      clear HA
      simp only [conciergeref2_Lines.j1] at H
      by_cases c6 : x24_2 = true
      ·subst c6
       rw [if_pos rfl] at H
       have H' := Aside0.mk H
       clear H
       go_wp2
       go_roundg kj2
       case measure => have := HK1.out; have := HJ2.out; omega
       case rel => exact ⟨(x3_1), (x4_1), (x5_1), (wrap64 (x6_1 + 1)), s1_, s1_, s1_, H', ⟨by have := HK1.out; have := HJ2.out; omega⟩, ⟨(fA2 HO_3)⟩, ⟨(fB0)⟩⟩
      ·replace c6 := Bool.eq_false_iff.mpr c6
       subst c6
       rw [if_neg (show ¬ (false = true) by decide)] at H
       by_cases c7 : 0 ≤ x5_1
       ·rw [if_pos c7] at H
        have c7b0 := eq_true c7
        have c7b1 : decide (0 ≤ x5_1) = true := decide_eq_true c7
        clear c7
        by_cases c8 : x5_1 ≤ x6_1
        ·rw [if_pos c8] at H
         have c8b0 := eq_true c8
         have c8b1 : decide (x5_1 ≤ x6_1) = true := decide_eq_true c8
         clear c8
         by_cases c9 : x6_1 ≤ (l0.length : Int)
         ·rw [if_pos c9] at H
          have c9b0 := eq_true c9
          have c9b1 : decide (x6_1 ≤ (l0.length : Int)) = true := decide_eq_true c9
          clear c9
          replace H := Option.bind_eq_some_iff.mp H
          obtain ⟨t185, A100, H⟩ := H
          have A10 := Aside0.mk A100
          clear A100
          by_cases c11 : (t185.length : Int) > 0
          ·rw [if_pos c11] at H
           have c11b0 : decide (0 < (t185.length : Int)) = true := decide_eq_true c11
           have c11b1 : decide (0 < t185.length) = true := decide_eq_true (by omega)
           clear c11
           by_cases c12 : x3_1.length < 4398046511104
           ·rw [if_pos c12] at H
            have LMc12 := Aside0.mk c12
            clear c12
            obtain ⟨y188, hy188⟩ : ∃ y_ : List (S48), y_ = (x3_1 ++ [(⟨wrap64 (x4_1 + 1), t185⟩ : S48)]) := ⟨_, rfl⟩
            replace H : (conciergeref2_Lines.l0 kj2 l0 y188 (wrap64 (x4_1 + 1)) (wrap64 (x6_1 + 1)) (wrap64 (x6_1 + 1))) = some r := by first | (rw [hy188]; with_reducible exact H) | (have H2_ := (Option.bind_some _ _).symm.trans H; rw [hy188]; with_reducible exact H2_) | (have H2_ := (Option.bind_some _ _).symm.trans H; with_reducible exact H2_) | with_reducible exact H | (rw [hy188]; exact H) | exact H
            have Ny188 := Aside0.mk hy188
            clear hy188
            have H' := Aside0.mk H
            clear H
            obtain ⟨i013, hi013, _, hsz13, _⟩ := info_parts info5
            obtain ⟨A13, hcut13, hA13, hC13⟩ := print_mid_of (P := Try.prog) (Value.int .u8) 0 22 5 .i64 .i64 Try.underlying22 hi013 hsz13 A0 c0 l0 x5_1 x6_1 (of_decide_eq_true (by first | (with_reducible assumption) | assumption)) (by first | omega | exact of_decide_eq_true (by first | (with_reducible assumption) | assumption)) (of_decide_eq_true (by first | (with_reducible assumption) | assumption)) HC0.out
            have HR184 := Aside0.mk (Kd.C_of_reads (h1 := fun _ => rfl) (hA13 _ (Kd.reads_of_C HR0.out)))
            have HC184 := Aside0.mk hC13
            clear hA13 hC13 hi013 hsz13
            go_wp2_with (first | ((with_reducible refine gate_callee (f := 38) rfl ?_); refine goesL_ (some 31) rfl rfl Try.func38 (by kernel_rfl) rfl #[.slice A13 ((l0.take (x6_1 : Int).toNat).drop (x5_1 : Int).toNat).length (c0 - x5_1.toNat)] rfl (by (try simp only [List.map_toArray, List.map_cons, List.map_nil]); first | done | (rw [show ((l0.take (x6_1 : Int).toNat).drop (x5_1 : Int).toNat).length = (x6_1.toNat - x5_1.toNat) from (by rw [List.length_drop, List.length_take]; have h_ : (x6_1 : Int) ≤ (l0.length : Int) := of_decide_eq_true (by first | (with_reducible assumption) | assumption); omega)] <;> rfl) | rfl | (simp only [List.length_drop, List.length_take]; rfl)) ?_; (with_reducible refine (conciergeref2_one.calls kj2 _ _ ((l0.take (x6_1 : Int).toNat).drop (x5_1 : Int).toNat) t185 _ ?side1 ?side2 A10.out).mono ?_); (case side1 => repeat (first | exact (Kd.C_below HR184.out HB.out) | (with_reducible refine Kd.C_alloc ?_ _) | (with_reducible refine Kd.C_drewN ?_ _) | (with_reducible refine Kd.C_drew ?_))); (case side2 => exact HC184.out); rintro e w14 ⟨v186, rfl, ho0, hb⟩; refine ⟨_, rfl, ?_⟩; have n0_ := Aside0.mk (Kd.S_elder' (fA2 HO_3) (Kd.R_base ho0) hb); have n1_ := Aside0.mk (Kd.R_lower ho0 (below_size (fB0))); have n2_ := Aside0.mk (below_step (fB0) hb); clear HO_3; clear HB; have HO_3 := n0_; have HO187 := n1_; have HB := n2_; clear n0_ n1_ n2_; (try clear hb); (try clear hb2); (try clear hk); (try clear hi); (try clear ho0); obtain ⟨Ao15, co15, eo15⟩ := Kd.R_slice HO187.out; subst eo15) | ((with_reducible refine gate_builtin (b := .append) (xs := #[.tmp 35, .tmp 39]) rfl ?_); at_builtin; refine Kd.S_append k48 (w0 := w) w.heap.size rfl (.tmp 35) (.tmp 39) 45 48 (.agg #[(.int .i64 0), (.slice none 0 0)]) 32 rfl Try.underlying45 info48 rfl (by decide) (by omega) u3 x3_1 (⟨wrap64 (x4_1 + 1), t185⟩ : S48) [.int .i64 (wrap64 (x4_1 + 1)), .slice Ao15 t185.length co15] (fun _ => True) (fun k_ => some k_ = (.slice Ao15 t185.length co15 : Value).ownBlock) rfl rfl ?aP (fun k_ hk_ => ((Kd.R_mono (ok' := fun k_ => ((fun _ => True)) k_ ∧ some k_ ≠ (u3 : Value).ownBlock) (Kd.R_apart' (HO187.out) (Kd.S_typed HO_3.out) (by decide)) (fun k_ hk => ⟨trivial, hk.2⟩))).1 k_ hk_.symm) ?aF ?aO ?aB ?aS ?aL ?_; (case aP => exact k48_mkM _ _ _ (⟨wrap64 (x4_1 + 1), t185⟩ : S48) (Kd.R_mono (Kd.R_tight rfl (Kd.R_mono (ok' := fun k_ => ((fun _ => True)) k_ ∧ some k_ ≠ (u3 : Value).ownBlock) (Kd.R_apart' (HO187.out) (Kd.S_typed HO_3.out) (by decide)) (fun k_ hk => ⟨trivial, hk.2⟩))) (fun _ h_ => h_))); (case aB => exact (fB0)); (case aF => exact (fun _ _ => trivial)); (case aO => exact (by (with_reducible repeat (first | apply Kd.S_alloc | apply Kd.S_drewN | apply Kd.S_drew)); exact Kd.S_mono HO_3.out (fun k_ hk => ⟨trivial, fun e_ => hk.2 e_⟩))); (case aS => exact (below_size (fB0))); (case aL => have := LMc12.out; omega); intro v189 w16 ho hb hg hat; rw [← Ny188.out] at ho; have n0_ := Aside0.mk (hb); have n1_ := Aside0.mk (ho); clear HB; clear HO_3; clear HO187; have HB := n0_; have HO190 := n1_; clear n0_ n1_; clear ho hb hg hat))
            go_roundg kj2
            case measure => have := HK1.out; have := HJ2.out; omega
            case rel => exact ⟨(y188), (wrap64 (x4_1 + 1)), (wrap64 (x6_1 + 1)), (wrap64 (x6_1 + 1)), s1_, s1_, s1_, H', ⟨by have := HK1.out; have := HJ2.out; omega⟩, ⟨(fA2 HO190)⟩, ⟨(fB0)⟩⟩
           ·rw [if_neg c12] at H
            exact absurd H (by simp)
          ·rw [if_neg c11] at H
           have c11b0 : decide (0 < (t185.length : Int)) = false := decide_eq_false c11
           have c11b1 : decide (0 < t185.length) = false := decide_eq_false (by omega)
           clear c11
           have H' := Aside0.mk H
           clear H
           obtain ⟨i017, hi017, _, hsz17, _⟩ := info_parts info5
           obtain ⟨A17, hcut17, hA17, hC17⟩ := print_mid_of (P := Try.prog) (Value.int .u8) 0 22 5 .i64 .i64 Try.underlying22 hi017 hsz17 A0 c0 l0 x5_1 x6_1 (of_decide_eq_true (by first | (with_reducible assumption) | assumption)) (by first | omega | exact of_decide_eq_true (by first | (with_reducible assumption) | assumption)) (of_decide_eq_true (by first | (with_reducible assumption) | assumption)) HC0.out
           have HR184 := Aside0.mk (Kd.C_of_reads (h1 := fun _ => rfl) (hA17 _ (Kd.reads_of_C HR0.out)))
           have HC184 := Aside0.mk hC17
           clear hA17 hC17 hi017 hsz17
           go_wp2_with (first | ((with_reducible refine gate_callee (f := 38) rfl ?_); refine goesL_ (some 31) rfl rfl Try.func38 (by kernel_rfl) rfl #[.slice A17 ((l0.take (x6_1 : Int).toNat).drop (x5_1 : Int).toNat).length (c0 - x5_1.toNat)] rfl (by (try simp only [List.map_toArray, List.map_cons, List.map_nil]); first | done | (rw [show ((l0.take (x6_1 : Int).toNat).drop (x5_1 : Int).toNat).length = (x6_1.toNat - x5_1.toNat) from (by rw [List.length_drop, List.length_take]; have h_ : (x6_1 : Int) ≤ (l0.length : Int) := of_decide_eq_true (by first | (with_reducible assumption) | assumption); omega)] <;> rfl) | rfl | (simp only [List.length_drop, List.length_take]; rfl)) ?_; (with_reducible refine (conciergeref2_one.calls kj2 _ _ ((l0.take (x6_1 : Int).toNat).drop (x5_1 : Int).toNat) t185 _ ?side1 ?side2 A10.out).mono ?_); (case side1 => repeat (first | exact (Kd.C_below HR184.out HB.out) | (with_reducible refine Kd.C_alloc ?_ _) | (with_reducible refine Kd.C_drewN ?_ _) | (with_reducible refine Kd.C_drew ?_))); (case side2 => exact HC184.out); rintro e w18 ⟨v186, rfl, ho0, hb⟩; refine ⟨_, rfl, ?_⟩; have n0_ := Aside0.mk (Kd.S_elder' (fA2 HO_3) (Kd.R_base ho0) hb); have n1_ := Aside0.mk (Kd.R_lower ho0 (below_size (fB0))); have n2_ := Aside0.mk (below_step (fB0) hb); clear HO_3; clear HB; have HO_3 := n0_; have HO187 := n1_; have HB := n2_; clear n0_ n1_ n2_; (try clear hb); (try clear hb2); (try clear hk); (try clear hi); (try clear ho0); obtain ⟨Ao19, co19, eo19⟩ := Kd.R_slice HO187.out; subst eo19))
           go_roundg kj2
           case measure => have := HK1.out; have := HJ2.out; omega
           case rel => exact ⟨(x3_1), (wrap64 (x4_1 + 1)), (wrap64 (x6_1 + 1)), (wrap64 (x6_1 + 1)), s1_, s1_, s1_, H', ⟨by have := HK1.out; have := HJ2.out; omega⟩, ⟨by (with_reducible repeat (first | apply Kd.S_alloc | apply Kd.S_drewN | apply Kd.S_drew)); exact Kd.S_mono HO_3.out (fun _ hk => trivial)⟩, ⟨(fB0)⟩⟩
         ·rw [if_neg c9] at H
          exact absurd H (by simp)
        ·rw [if_neg c8] at H
         exact absurd H (by simp)
       ·rw [if_neg c7] at H
        exact absurd H (by simp)
   ·rw [if_neg c2] at H
    have c2b0 : decide (x6_1 ≤ (l0.length : Int)) = false := decide_eq_false c2
    clear c2
    obtain rfl := Option.some.inj H
    go_wp2
    go_ret
    exact ⟨_, by first | rfl | (simp [errW_none, errW_some] <;> rfl) | (simp [*, errW_none, errW_some] <;> rfl), (fA2 HO_3), (fB0)⟩
end Go.Proofs.Ytlfhahnceeoegaa.All
end
section
namespace Go.Proofs.Ytlfhahnceeoegaa.All
open Go.RowKit Go.Proofs.YtlfhahnceeoegaaW.PrintWords Go.Proofs.YtlfhahnceeoegaaW.PrintLast Go.Proofs.YtlfhahnceeoegaaW.PrintMore
set_option linter.unusedVariables false
set_option linter.unusedSimpArgs false
mutual
def conciergeref15_Select.l0 : Nat → List (S48) → Int → List (S52) → List ByteArray → Option ((List (S52)) × List ByteArray)
 | 0, _, _, _, _ => none
 | k + 1, x4, x5, x193000, x193001 => if x5 < (x4.length : Int) then (if 0 ≤ x5 then (if 0 < (((rd_T48 x4 x5).f1).length : Int) then (if (rdOf ByteArray.empty ((rd_T48 x4 x5).f1) 0).toList = ([112, 114, 101, 102, 105, 120] : List UInt8) then (conciergeref15_Select.j1 k x4 x5 ((rd_T48 x4 x5).f1) ((((rd_T48 x4 x5).f1).length : Int) == 4) x193000 x193001) else (conciergeref15_Select.j1 k x4 x5 ((rd_T48 x4 x5).f1) false x193000 x193001)) else (none)) else (none)) else (if (x193000.length : Int) = 0 then ((conciergeref15_Rows.f k).bind fun t196 => (some (t196, x193001))) else (some (x193000, x193001)))
def conciergeref15_Select.j1 : Nat → List (S48) → Int → List ByteArray → Bool → List (S52) → List ByteArray → Option ((List (S52)) × List ByteArray)
 | 0, _, _, _, _, _, _ => none
 | k + 1, x4, x5, x6, x28, x193000, x193001 => if x28 = true then (if 2 < (x6.length : Int) then ((conciergeref2_Num.f k (rdOf ByteArray.empty x6 2) 1000).bind fun bt202 => (if 3 < (x6.length : Int) then ((conciergeref2_Num.f k (rdOf ByteArray.empty x6 3) 1000).bind fun bt205 => (if 1 < (x6.length : Int) then ((conciergeref15_row.f k (rdOf ByteArray.empty x6 1) bt202.1 bt205.1).bind fun bt208 => (if bt202.2 = true then (if bt205.2 = true then (if bt208.2.2.2.2 = true then (if (x193000.length : Int) < 32 then (if x193000.length < 3518437208883 then (conciergeref15_Select.l0 k x4 (wrap64 (x5 + 1)) (x193000 ++ [(⟨bt208.1, bt208.2.1, bt208.2.2.1, bt208.2.2.2.1⟩ : S52)]) x193001) else (none)) else (conciergeref15_Select.l0 k x4 (wrap64 (x5 + 1)) x193000 x193001)) else (conciergeref15_Select.l0 k x4 (wrap64 (x5 + 1)) x193000 x193001)) else (conciergeref15_Select.l0 k x4 (wrap64 (x5 + 1)) x193000 x193001)) else (conciergeref15_Select.l0 k x4 (wrap64 (x5 + 1)) x193000 x193001))) else (none))) else (none))) else (none)) else (if 0 < (x6.length : Int) then (if (rdOf ByteArray.empty x6 0).toList = ([111, 119, 110] : List UInt8) then (conciergeref15_Select.j2 k x4 x5 x6 ((x6.length : Int) == 2) x193000 x193001) else (conciergeref15_Select.j2 k x4 x5 x6 false x193000 x193001)) else (none))
def conciergeref15_Select.j2 : Nat → List (S48) → Int → List ByteArray → Bool → List (S52) → List ByteArray → Option ((List (S52)) × List ByteArray)
 | 0, _, _, _, _, _, _ => none
 | k + 1, x4, x5, x6, x80, x193000, x193001 => if x80 = true then (if 1 < (x6.length : Int) then ((conciergeref2_Parse.f k (rdOf ByteArray.empty x6 1)).bind fun bt219 => (if bt219.2 = true then (if (x193001.length : Int) < 32 then (if x193001.length < 8796093022208 then (conciergeref15_Select.l0 k x4 (wrap64 (x5 + 1)) x193000 (x193001 ++ [bt219.1])) else (none)) else (conciergeref15_Select.l0 k x4 (wrap64 (x5 + 1)) x193000 x193001)) else (conciergeref15_Select.l0 k x4 (wrap64 (x5 + 1)) x193000 x193001))) else (none)) else (conciergeref15_Select.l0 k x4 (wrap64 (x5 + 1)) x193000 x193001)
end
def conciergeref15_Select.f (k : Nat) (l0 : List Int) : Option ((List (S52)) × List ByteArray) := (conciergeref2_Lines.f k l0).bind fun t193 => (conciergeref15_Select.l0 k t193 0 ([] : List (S52)) ([] : List ByteArray))
set_option maxHeartbeats 8000000 in
set_option maxRecDepth 100000 in
theorem conciergeref15_Select.calls (k : Nat) (A0 : Option Addr) (c0 : Nat) (l0 : List Int) (r1 : List (S52)) (r2 : List ByteArray) (w : World) (hr0 : Kd.C (Kd.int .u8) w A0 l0.length l0) (hc0 : l0.length ≤ c0) (h : conciergeref15_Select.f k l0 = some (r1, r2)) :
  Calls Try.prog 8 #[.slice A0 l0.length c0] w fun e w' => ∃ v0_ v1_ : Value, e = .returned (.agg #[v0_, v1_]) ∧ Kd.R k52 52 w' w.heap.size (fun _ => True) v0_ r1 ∧ Kd.R Kd.string 9 w' w.heap.size (fun _ => True) v1_ r2 ∧ Below w.heap.size w w' := by
 have hu28 := Try.underlying28
 have hu52 := Try.underlying52
 have HR0 := Aside0.mk hr0
 have HC0 := Aside0.mk hc0
 clear hr0 hc0
 have HB := Aside0.mk (Below.refl w.heap.size w)
 have H : ((conciergeref2_Lines.f k l0).bind fun t193 => (conciergeref15_Select.l0 k t193 0 ([] : List (S52)) ([] : List ByteArray))) = some (r1, r2) := h
 clear h
 replace H := Option.bind_eq_some_iff.mp H
 obtain ⟨t193, A20, H⟩ := H
 have A2 := Aside0.mk A20
 clear A20
 have H' := Aside0.mk H
 clear H
 go_enter Try.func8, Try.ntmps8
 go_wp2_with (first | ((with_reducible refine gate_dst (N := 2) rfl ?_); (try (refine gate_guard (by rfl) ?_; dsimp only)); refine box_event ?hg (N := 2) ?hd (cs := #[.slice none 0 0, .slice none 0 0]) (t := 28) ?hr ?_; (case hd => rfl); (case hg => rfl); (case hr => first | (go_simp; done) | (go_simp; rfl)); intro gb191 hg w3 hbox hb; have n0_ := Aside0.mk (below_step (fB0) hb); have n1_ := Aside0.mk (hbox); have n2_ := Aside0.mk ((by rw [hg]; exact (below_size (fB0)) : w.heap.size ≤ gb191)); have n3_ := Aside0.mk ((by rw [hg]; exact (below_size (fB0)) : w.heap.size ≤ gb191)); clear HB; have HB := n0_; have BK191 := n1_; have GW191 := n2_; have GE191 := n3_; clear n0_ n1_ n2_ n3_; clear hb hbox hg) | ((with_reducible refine gate_dst (N := 3) rfl ?_); (try (refine gate_guard (by rfl) ?_; dsimp only)); refine box_event ?hg (N := 3) ?hd (cs := #[.slice none 0 0, .slice none 0 0]) (t := 28) ?hr ?_; (case hd => rfl); (case hg => rfl); (case hr => first | (go_simp; done) | (go_simp; rfl)); intro gb192 hg w4 hbox hb; have n0_ := Aside0.mk (blk_below (g := gb191) (o := .cells #[.slice none 0 0, .slice none 0 0] 28 (0, 0)) (fA1 BK191) hb); have n1_ := Aside0.mk (below_step (fB1 GE191) hb); have n2_ := Aside0.mk (hbox); have n3_ := Aside0.mk ((by rw [hg]; exact (below_size (fB1 GE191)) : w.heap.size ≤ gb192)); have n4_ := Aside0.mk ((by rw [hg]; exact (below_size (fB1 GE191)) : w.heap.size ≤ gb192)); have n5_ := Aside0.mk ((by rw [hg]; exact Nat.ne_of_lt (blk_lt (g := gb191) (o := .cells #[.slice none 0 0, .slice none 0 0] 28 (0, 0)) (fA1 BK191)) : gb191 ≠ gb192)); have n6_ := Aside0.mk ((by rw [hg]; exact Nat.ne_of_gt (blk_lt (g := gb191) (o := .cells #[.slice none 0 0, .slice none 0 0] 28 (0, 0)) (fA1 BK191)) : gb192 ≠ gb191)); clear BK191; clear HB; have BK191 := n0_; have HB := n1_; have BK192 := n2_; have GW192 := n3_; have GE192 := n4_; have NB191_192 := n5_; have NB192_191 := n6_; clear n0_ n1_ n2_ n3_ n4_ n5_ n6_; clear hb hbox hg) | ((with_reducible refine gate_callee (f := 21) rfl ?_); refine goesL_ (some 16) rfl rfl Try.func21 (by kernel_rfl) rfl #[.slice A0 l0.length c0] rfl s2_ ?_; (with_reducible refine (conciergeref2_Lines.calls k _ _ l0 t193 _ ?side1 ?side2 A2.out).mono ?_); (case side1 => repeat (first | exact (Kd.C_below HR0.out HB.out) | (with_reducible refine Kd.C_alloc ?_ _) | (with_reducible refine Kd.C_drewN ?_ _) | (with_reducible refine Kd.C_drew ?_))); (case side2 => exact HC0.out); rintro e w5 ⟨v194, rfl, ho0, hb⟩; refine ⟨_, rfl, ?_⟩; have n0_ := Aside0.mk (Kd.S_lower ho0 (below_size (fB2 GE191 GE192))); have n1_ := Aside0.mk (blk_below (g := gb191) (o := .cells #[.slice none 0 0, .slice none 0 0] 28 (0, 0)) (fA1 BK191) hb); have n2_ := Aside0.mk (blk_below (g := gb192) (o := .cells #[.slice none 0 0, .slice none 0 0] 28 (0, 0)) (fA1 BK192) hb); have n3_ := Aside0.mk (below_step (fB2 GE191 GE192) hb); clear BK191; clear BK192; clear HB; have HO195 := n0_; have BK191 := n1_; have BK192 := n2_; have HB := n3_; clear n0_ n1_ n2_ n3_; (try clear hb); (try clear hb2); (try clear hk); (try clear hi); (try clear ho0)))
 go_loopg [5] k (fun kq v5 w' => ∃ (x5_1 : Int) (x193000_1 : List (S52)) (x193001_1 : List ByteArray) (u193000 : Value) (u193001 : Value), v5 = .int .i64 x5_1 ∧ Aside0 (conciergeref15_Select.l0 kq t193 x5_1 x193000_1 x193001_1 = some (r1, r2)) ∧ Aside0 (kq ≤ k) ∧ Aside0 (Kd.S k48 48 w' w.heap.size (fun k_ => some k_ ≠ (u193001 : Value).ownBlock) v194 t193) ∧ Aside0 (Kd.R k52 52 w' w.heap.size (fun _ => True) u193000 x193000_1) ∧ Aside0 (Kd.R Kd.string 9 w' w.heap.size (fun _ => True) u193001 x193001_1) ∧ Aside0 (w'.heap[gb191]? = some (.cells #[(.slice none 0 0), (.slice none 0 0)] 28 (0, 0))) ∧ Aside0 (w'.heap[gb192]? = some (.cells #[u193000, u193001] 28 (0, 0))) ∧ Aside0 (Below w.heap.size w w'))
 case atStart => exact ⟨(0), (([] : List (S52))), (([] : List ByteArray)), (.slice none 0 0), (.slice none 0 0), s1_, H', ⟨Nat.le_refl _⟩, ⟨by (with_reducible repeat (first | apply Kd.S_alloc | apply Kd.S_drewN | apply Kd.S_drew)); exact Kd.S_mono HO195.out (fun _ hk => (by simp [Value.ownBlock]))⟩, ⟨by first | exact Kd.R_nil _ _ _ _ _ | exact Kd.N_nil _ _ _ _ _ | exact Kd.V_nil _ _ _ _ _ | exact Kd.Q_nil _ _ _ _ _ | exact Kd.S_nil _ _ _ _ _⟩, ⟨by first | exact Kd.R_nil _ _ _ _ _ | exact Kd.N_nil _ _ _ _ _ | exact Kd.V_nil _ _ _ _ _ | exact Kd.Q_nil _ _ _ _ _ | exact Kd.S_nil _ _ _ _ _⟩, ⟨(fA1 BK191)⟩, ⟨(fA1 BK192)⟩, ⟨(fB2 GE191 GE192)⟩⟩
 case round =>
  clear H'
  try clear c2
  try clear p2
  obtain ⟨x5_1, x193000_1, x193001_1, u193000, u193001, rfl, HA, HK1, HO_4, HO_193000, HO_193001, BK191, BK192, HB⟩ := hrel
  cases gk with
  | zero => exact absurd HA.out (by simp [conciergeref15_Select.l0])
  | succ k1 =>
   have H := HA.out
   clear HA
   simp only [conciergeref15_Select.l0] at H
   by_cases c6 : x5_1 < (t193.length : Int)
   ·rw [if_pos c6] at H
    have c6b0 : decide (x5_1 < (t193.length : Int)) = true := decide_eq_true c6
    clear c6
    by_cases c7 : 0 ≤ x5_1
    ·rw [if_pos c7] at H
     have c7b0 : decide (0 ≤ x5_1) = true := decide_eq_true c7
     clear c7
     have HC8 := Aside0.mk H
     clear H
     obtain ⟨Ao9, co9, eo9⟩ := Kd.S_slice HO_4.out
     subst eo9
     have p199 : 0 ≤ (x5_1 : Int) := of_decide_eq_true (by first | (with_reducible assumption) | assumption)
     have q199 : x5_1 < (t193.length : Int) := of_decide_eq_true (by first | (with_reducible assumption) | assumption)
     obtain ⟨ad199, A199_1, c199_1, e199, hx199_0, hx199_1, hl199_1, hi199_1⟩ := at_T48 (Kd.S_reads' HO_4.out).2.2 x5_1 p199 q199
     cases e199
     obtain ⟨ce199, hce199, hMe199, hcc199⟩ := Kd.S_get HO_4.out z48 x5_1 p199 (by first | exact q199 | exact of_decide_eq_true (by first | (with_reducible assumption) | assumption) | (have e_ := (Kd.S_reads' HO_4.out).1; omega))
     obtain ⟨ve199_1, rfl, ge199_1⟩ := k48_openM hMe199
     have hv199_1 := hcc199 1 _ rfl
     rw [add_field _ _ 1 (by omega)] at hv199_1
     replace hv199_1 := Option.some.inj (hv199_1.symm.trans hx199_1)
     rw [hv199_1] at ge199_1
     have HL199_1 := Aside0.mk (show Kd.R Kd.string 9 _ _ _ _ ((rd_T48 t193 x5_1).f1) from ge199_1)
     clear hv199_1 ge199_1
     clear hcc199 hce199
     have HR199_1 := Aside0.mk hi199_1
     have HC199_1 := Aside0.mk hl199_1
     clear hi199_1 hl199_1
     replace p199 := eq_true p199
     replace q199 := eq_true q199
     go_upto_region 7 with (fail)
     go_cut [28] (fun v28 wc => ∃ (kq : Nat) (x28_7 : Bool), v28 = .bool x28_7 ∧ Aside0 (conciergeref15_Select.j1 kq t193 x5_1 ((rd_T48 t193 x5_1).f1) x28_7 x193000_1 x193001_1 = some (r1, r2)) ∧ Aside0 (kq ≤ k1) ∧ Aside0 (Kd.S k48 48 wc w.heap.size (fun k_ => some k_ ≠ (u193001 : Value).ownBlock) (.slice (some ad199) t193.length co9) t193) ∧ Aside0 (Kd.R k52 52 wc w.heap.size (fun _ => True) u193000 x193000_1) ∧ Aside0 (Kd.R Kd.string 9 wc w.heap.size (fun _ => True) u193001 x193001_1) ∧ Aside0 (wc.heap[gb191]? = some (.cells #[(.slice none 0 0), (.slice none 0 0)] 28 (0, 0))) ∧ Aside0 (wc.heap[gb192]? = some (.cells #[u193000, u193001] 28 (0, 0))) ∧ Aside0 (Kd.C Kd.string wc A199_1 ((rd_T48 t193 x5_1).f1).length ((rd_T48 t193 x5_1).f1)) ∧ Aside0 (Below w.heap.size w wc))
     case first =>
      have H := HC8.out
      clear HC8
      by_cases c10 : 0 < (((rd_T48 t193 x5_1).f1).length : Int)
      ·rw [if_pos c10] at H
       have c10b0 : decide (0 < (((rd_T48 t193 x5_1).f1).length : Int)) = true := decide_eq_true c10
       have c10b1 : decide (0 < ((rd_T48 t193 x5_1).f1).length) = true := decide_eq_true (by omega)
       clear c10
       (first | rw [c10b0] | (simp only [i64_w, i32_w]; rw [c10b0]) | skip)
       by_cases c11 : (rdOf ByteArray.empty ((rd_T48 t193 x5_1).f1) 0).toList = ([112, 114, 101, 102, 105, 120] : List UInt8)
       ·rw [if_pos c11] at H
        have c11b0 : ((rdOf ByteArray.empty ((rd_T48 t193 x5_1).f1) 0).toList == ([112, 114, 101, 102, 105, 120] : List UInt8)) = true := beq_iff_eq.mpr c11
        have c11b1 : ((rdOf ByteArray.empty ((rd_T48 t193 x5_1).f1) 0).toList != ([112, 114, 101, 102, 105, 120] : List UInt8)) = false := bne_eq_false_iff_eq.mpr c11
        clear c11
        have H' := Aside0.mk H
        clear H
        have p200 : 0 ≤ (0 : Int) := (by omega)
        have q200 : 0 < (((rd_T48 t193 x5_1).f1).length : Int) := of_decide_eq_true (by first | (with_reducible assumption) | assumption)
        obtain ⟨ad200, e200, hx200_0⟩ := Kd.at_string (by repeat (first | (with_reducible exact HR199_1.out) | (with_reducible refine Kd.C_alloc ?_ _) | (with_reducible refine Kd.C_drewN ?_ _) | (with_reducible refine Kd.C_drew ?_) | exact HR199_1.out)) 0 p200 q200
        cases e200
        have qi200 : (0 < ((rd_T48 t193 x5_1).f1).length) = True := eq_true (by omega)
        (try rw [show ((0 : Int)).toNat = 0 from rfl] at hx200_0)
        (try rw [Addr.add_zero'] at hx200_0)
        replace p200 := eq_true p200
        replace q200 := eq_true q200
        go_wp2
        go_meet
        case rel => exact ⟨_, (((((rd_T48 t193 x5_1).f1).length : Int) == 4)), s1_, H', ⟨by have := HK1.out; first | omega | exact Nat.le_refl _⟩, ⟨(fA2 HO_4)⟩, ⟨(fA0 HO_193000)⟩, ⟨(fA0 HO_193001)⟩, ⟨(fA1 BK191)⟩, ⟨(fA1 BK192)⟩, ⟨by repeat (first | (with_reducible exact HR199_1.out) | (with_reducible refine Kd.C_alloc ?_ _) | (with_reducible refine Kd.C_drewN ?_ _) | (with_reducible refine Kd.C_drew ?_) | exact HR199_1.out)⟩, ⟨(fB2 GE191 GE192)⟩⟩
       ·rw [if_neg c11] at H
        have c11b0 : ((rdOf ByteArray.empty ((rd_T48 t193 x5_1).f1) 0).toList == ([112, 114, 101, 102, 105, 120] : List UInt8)) = false := beq_eq_false_iff_ne.mpr c11
        have c11b1 : ((rdOf ByteArray.empty ((rd_T48 t193 x5_1).f1) 0).toList != ([112, 114, 101, 102, 105, 120] : List UInt8)) = true := bne_iff_ne.mpr c11
        have H' := Aside0.mk H
        clear H
        have p200 : 0 ≤ (0 : Int) := (by omega)
        have q200 : 0 < (((rd_T48 t193 x5_1).f1).length : Int) := of_decide_eq_true (by first | (with_reducible assumption) | assumption)
        obtain ⟨ad200, e200, hx200_0⟩ := Kd.at_string (by repeat (first | (with_reducible exact HR199_1.out) | (with_reducible refine Kd.C_alloc ?_ _) | (with_reducible refine Kd.C_drewN ?_ _) | (with_reducible refine Kd.C_drew ?_) | exact HR199_1.out)) 0 p200 q200
        cases e200
        have qi200 : (0 < ((rd_T48 t193 x5_1).f1).length) = True := eq_true (by omega)
        (try rw [show ((0 : Int)).toNat = 0 from rfl] at hx200_0)
        (try rw [Addr.add_zero'] at hx200_0)
        replace p200 := eq_true p200
        replace q200 := eq_true q200
        go_wp2
        go_meet
        case rel => exact ⟨_, (false), s1_, H', ⟨by have := HK1.out; first | omega | exact Nat.le_refl _⟩, ⟨(fA2 HO_4)⟩, ⟨(fA0 HO_193000)⟩, ⟨(fA0 HO_193001)⟩, ⟨(fA1 BK191)⟩, ⟨(fA1 BK192)⟩, ⟨by repeat (first | (with_reducible exact HR199_1.out) | (with_reducible refine Kd.C_alloc ?_ _) | (with_reducible refine Kd.C_drewN ?_ _) | (with_reducible refine Kd.C_drew ?_) | exact HR199_1.out)⟩, ⟨(fB2 GE191 GE192)⟩⟩
      ·rw [if_neg c10] at H
       exact absurd H (by simp)
     case rest =>
      clear HC8
      try clear c1
      try clear p1
      try clear q1
      try clear hx1
      try clear c2
      try clear p2
      try clear q2
      try clear hx2
      try clear qi2
      try clear c6
      try clear c6b0
      try clear c7
      try clear c7b0
      try clear c8
      try clear c10
      try clear c10b0
      try clear c10b1
      try clear c11
      try clear c11b0
      try clear c11b1
      try clear hx199_0
      try clear hx199_1
      try clear hx200_0
      try clear p199
      try clear p2
      try clear p200
      try clear q199
      try clear q200
      obtain ⟨kq, x28_7, rfl, HA, HJ7, HO_4, HO_193000, HO_193001, BK191, BK192, HR199_1, HB⟩ := hcut
      cases kq with
      | zero => exact absurd HA.out (by simp [conciergeref15_Select.j1])
      | succ kj7 =>
       have H := HA.out
       clear HA
       simp only [conciergeref15_Select.j1] at H
       by_cases c12 : x28_7 = true
       ·subst c12
        rw [if_pos rfl] at H
        by_cases c13 : 2 < (((rd_T48 t193 x5_1).f1).length : Int)
        ·rw [if_pos c13] at H
         have c13b0 : decide (2 < (((rd_T48 t193 x5_1).f1).length : Int)) = true := decide_eq_true c13
         have c13b1 : decide (2 < ((rd_T48 t193 x5_1).f1).length) = true := decide_eq_true (by omega)
         clear c13
         replace H := Option.bind_eq_some_iff.mp H
         obtain ⟨⟨t202, t203⟩, A140, H⟩ := H
         have A14 := Aside0.mk A140
         clear A140
         by_cases c15 : 3 < (((rd_T48 t193 x5_1).f1).length : Int)
         ·rw [if_pos c15] at H
          have c15b0 : decide (3 < (((rd_T48 t193 x5_1).f1).length : Int)) = true := decide_eq_true c15
          have c15b1 : decide (3 < ((rd_T48 t193 x5_1).f1).length) = true := decide_eq_true (by omega)
          clear c15
          replace H := Option.bind_eq_some_iff.mp H
          obtain ⟨⟨t205, t206⟩, A160, H⟩ := H
          have A16 := Aside0.mk A160
          clear A160
          by_cases c17 : 1 < (((rd_T48 t193 x5_1).f1).length : Int)
          ·rw [if_pos c17] at H
           have c17b0 : decide (1 < (((rd_T48 t193 x5_1).f1).length : Int)) = true := decide_eq_true c17
           have c17b1 : decide (1 < ((rd_T48 t193 x5_1).f1).length) = true := decide_eq_true (by omega)
           clear c17
           replace H := Option.bind_eq_some_iff.mp H
           obtain ⟨⟨t208, t209, t210, t211, t212⟩, A180, H⟩ := H
           have A18 := Aside0.mk A180
           clear A180
           by_cases c19 : t203 = true
           ·subst c19
            rw [if_pos rfl] at H
            by_cases c20 : t206 = true
            ·subst c20
             rw [if_pos rfl] at H
             by_cases c21 : t212 = true
             ·subst c21
              rw [if_pos rfl] at H
              by_cases c22 : (x193000_1.length : Int) < 32
              ·rw [if_pos c22] at H
               have c22b0 : decide ((x193000_1.length : Int) < 32) = true := decide_eq_true c22
               have c22b1 : decide (x193000_1.length < 32) = true := decide_eq_true (by omega)
               clear c22
               by_cases c23 : x193000_1.length < 3518437208883
               ·rw [if_pos c23] at H
                have LMc23 := Aside0.mk c23
                clear c23
                obtain ⟨y214, hy214⟩ : ∃ y_ : List (S52), y_ = (x193000_1 ++ [(⟨t208, t209, t210, t211⟩ : S52)]) := ⟨_, rfl⟩
                replace H : (conciergeref15_Select.l0 kj7 t193 (wrap64 (x5_1 + 1)) y214 x193001_1) = some (r1, r2) := by first | (rw [hy214]; with_reducible exact H) | (have H2_ := (Option.bind_some _ _).symm.trans H; rw [hy214]; with_reducible exact H2_) | (have H2_ := (Option.bind_some _ _).symm.trans H; with_reducible exact H2_) | with_reducible exact H | (rw [hy214]; exact H) | exact H
                have Ny214 := Aside0.mk hy214
                clear hy214
                have H' := Aside0.mk H
                clear H
                have p201 : 0 ≤ (2 : Int) := (by omega)
                have q201 : 2 < (((rd_T48 t193 x5_1).f1).length : Int) := of_decide_eq_true (by first | (with_reducible assumption) | assumption)
                obtain ⟨ad201, e201, hx201_0⟩ := Kd.at_string (by repeat (first | (with_reducible exact HR199_1.out) | (with_reducible refine Kd.C_alloc ?_ _) | (with_reducible refine Kd.C_drewN ?_ _) | (with_reducible refine Kd.C_drew ?_) | exact HR199_1.out)) 2 p201 q201
                cases e201
                (try simp only [show (2 : Int).toNat = 2 from rfl, Nat.reduceMul, Nat.reduceEqDiff, Go.Addr.add, ↓reduceIte] at hx201_0)
                have qi201 : (2 < ((rd_T48 t193 x5_1).f1).length) = True := eq_true (by omega)
                (try rw [show ((2 : Int)).toNat = 2 from rfl] at hx201_0)
                replace p201 := eq_true p201
                replace q201 := eq_true q201
                go_wp2_with (first | ((with_reducible refine gate_callee (f := 22) rfl ?_); refine goesL_ (some 42) rfl rfl Try.func22 (by kernel_rfl) rfl #[.string (rdOf ByteArray.empty ((rd_T48 t193 x5_1).f1) 2), .int .i64 1000] rfl s2_ ?_; (with_reducible refine (conciergeref2_Num.calls kj7 (rdOf ByteArray.empty ((rd_T48 t193 x5_1).f1) 2) 1000 t202 true _ A14.out).mono ?_); rintro e w' ⟨rfl, ⟨nd, rfl⟩⟩; refine ⟨_, rfl, ?_⟩; (try (rw [drewN_self wc]; generalize hq_ : World.drewN wc _ = wc; have n0_ : Aside0 (Kd.R k52 52 wc w.heap.size (fun _ => True) u193000 x193000_1) := ⟨by rw [← hq_]; exact (fA0 HO_193000)⟩; have n1_ : Aside0 (Kd.R Kd.string 9 wc w.heap.size (fun _ => True) u193001 x193001_1) := ⟨by rw [← hq_]; exact (fA0 HO_193001)⟩; have n2_ : Aside0 (Kd.S k48 48 wc w.heap.size (fun k_ => some k_ ≠ (u193001 : Value).ownBlock) (.slice (some ad199) t193.length co9) t193) := ⟨by rw [← hq_]; exact (fA2 HO_4)⟩; have n3_ : Aside0 (wc.heap[gb191]? = some (.cells #[.slice none 0 0, .slice none 0 0] 28 (0, 0))) := ⟨by rw [← hq_]; exact (fA1 BK191)⟩; have n4_ : Aside0 (wc.heap[gb192]? = some (.cells #[u193000, u193001] 28 (0, 0))) := ⟨by rw [← hq_]; exact (fA1 BK192)⟩; have n5_ : Aside0 (Below w.heap.size w wc) := ⟨by rw [← hq_]; exact (fB2 GE191 GE192)⟩; have n6_ : Aside0 (Kd.C Kd.string wc (some ad201) ((rd_T48 t193 x5_1).f1).length ((rd_T48 t193 x5_1).f1)) := ⟨by rw [← hq_]; exact (by repeat (first | (with_reducible exact HR199_1.out) | (with_reducible refine Kd.C_alloc ?_ _) | (with_reducible refine Kd.C_drewN ?_ _) | (with_reducible refine Kd.C_drew ?_) | exact HR199_1.out))⟩; clear HO_193000 HO_193001 HO_4 BK191 BK192 HB HR199_1 hq_; have HO_193000 := n0_; have HO_193001 := n1_; have HO_4 := n2_; have BK191 := n3_; have BK192 := n4_; have HB := n5_; have HR199_1 := n6_; clear n0_ n1_ n2_ n3_ n4_ n5_ n6_)); have p204 : 0 ≤ (3 : Int) := (by omega); have q204 : 3 < (((rd_T48 t193 x5_1).f1).length : Int) := of_decide_eq_true (by first | (with_reducible assumption) | assumption); obtain ⟨ad204, e204, hx204_0⟩ := Kd.at_string (by repeat (first | (with_reducible exact HR199_1.out) | (with_reducible refine Kd.C_alloc ?_ _) | (with_reducible refine Kd.C_drewN ?_ _) | (with_reducible refine Kd.C_drew ?_) | exact HR199_1.out)) 3 p204 q204; obtain rfl : ad201 = ad204 := (by injection e204); (try simp only [show (3 : Int).toNat = 3 from rfl, Nat.reduceMul, Nat.reduceEqDiff, Go.Addr.add, ↓reduceIte] at hx204_0); have qi204 : (3 < ((rd_T48 t193 x5_1).f1).length) = True := eq_true (by omega); (try rw [show ((3 : Int)).toNat = 3 from rfl] at hx204_0); replace p204 := eq_true p204; replace q204 := eq_true q204) | ((with_reducible refine gate_callee (f := 22) rfl ?_); refine goesL_ (some 49) rfl rfl Try.func22 (by kernel_rfl) rfl #[.string (rdOf ByteArray.empty ((rd_T48 t193 x5_1).f1) 3), .int .i64 1000] rfl s2_ ?_; (with_reducible refine (conciergeref2_Num.calls kj7 (rdOf ByteArray.empty ((rd_T48 t193 x5_1).f1) 3) 1000 t205 true _ A16.out).mono ?_); rintro e w' ⟨rfl, ⟨nd, rfl⟩⟩; refine ⟨_, rfl, ?_⟩; (try (rw [drewN_self wc]; generalize hq_ : World.drewN wc _ = wc; have n0_ : Aside0 (Kd.R k52 52 wc w.heap.size (fun _ => True) u193000 x193000_1) := ⟨by rw [← hq_]; exact (fA0 HO_193000)⟩; have n1_ : Aside0 (Kd.R Kd.string 9 wc w.heap.size (fun _ => True) u193001 x193001_1) := ⟨by rw [← hq_]; exact (fA0 HO_193001)⟩; have n2_ : Aside0 (Kd.S k48 48 wc w.heap.size (fun k_ => some k_ ≠ (u193001 : Value).ownBlock) (.slice (some ad199) t193.length co9) t193) := ⟨by rw [← hq_]; exact (fA2 HO_4)⟩; have n3_ : Aside0 (wc.heap[gb191]? = some (.cells #[.slice none 0 0, .slice none 0 0] 28 (0, 0))) := ⟨by rw [← hq_]; exact (fA1 BK191)⟩; have n4_ : Aside0 (wc.heap[gb192]? = some (.cells #[u193000, u193001] 28 (0, 0))) := ⟨by rw [← hq_]; exact (fA1 BK192)⟩; have n5_ : Aside0 (Below w.heap.size w wc) := ⟨by rw [← hq_]; exact (fB2 GE191 GE192)⟩; have n6_ : Aside0 (Kd.C Kd.string wc (some ad201) ((rd_T48 t193 x5_1).f1).length ((rd_T48 t193 x5_1).f1)) := ⟨by rw [← hq_]; exact (by repeat (first | (with_reducible exact HR199_1.out) | (with_reducible refine Kd.C_alloc ?_ _) | (with_reducible refine Kd.C_drewN ?_ _) | (with_reducible refine Kd.C_drew ?_) | exact HR199_1.out))⟩; clear HO_193000 HO_193001 HO_4 BK191 BK192 HB HR199_1 hq_; have HO_193000 := n0_; have HO_193001 := n1_; have HO_4 := n2_; have BK191 := n3_; have BK192 := n4_; have HB := n5_; have HR199_1 := n6_; clear n0_ n1_ n2_ n3_ n4_ n5_ n6_)); have p207 : 0 ≤ (1 : Int) := (by omega); have q207 : 1 < (((rd_T48 t193 x5_1).f1).length : Int) := of_decide_eq_true (by first | (with_reducible assumption) | assumption); obtain ⟨ad207, e207, hx207_0⟩ := Kd.at_string (by repeat (first | (with_reducible exact HR199_1.out) | (with_reducible refine Kd.C_alloc ?_ _) | (with_reducible refine Kd.C_drewN ?_ _) | (with_reducible refine Kd.C_drew ?_) | exact HR199_1.out)) 1 p207 q207; obtain rfl : ad201 = ad207 := (by injection e207); (try simp only [show (1 : Int).toNat = 1 from rfl, Nat.reduceMul, Nat.reduceEqDiff, Go.Addr.add, ↓reduceIte] at hx207_0); have qi207 : (1 < ((rd_T48 t193 x5_1).f1).length) = True := eq_true (by omega); (try rw [show ((1 : Int)).toNat = 1 from rfl] at hx207_0); replace p207 := eq_true p207; replace q207 := eq_true q207) | ((with_reducible refine gate_callee (f := 23) rfl ?_); refine goesL_ (some 58) rfl rfl Try.func23 (by kernel_rfl) rfl #[.string (rdOf ByteArray.empty ((rd_T48 t193 x5_1).f1) 1), .int .i64 t202, .int .i64 t205] rfl s2_ ?_; (with_reducible refine (conciergeref15_row.calls kj7 (rdOf ByteArray.empty ((rd_T48 t193 x5_1).f1) 1) t202 t205 t208 t209 t210 t211 true _ A18.out).mono ?_); rintro e w24 ⟨rfl, hb⟩; refine ⟨_, rfl, ?_⟩; have n0_ := Aside0.mk (Kd.S_below (fA2 HO_4) hb); have n1_ := Aside0.mk (Kd.R_below (fA0 HO_193000) hb); have n2_ := Aside0.mk (Kd.R_below (fA0 HO_193001) hb); have n3_ := Aside0.mk (blk_below (g := gb191) (o := .cells #[.slice none 0 0, .slice none 0 0] 28 (0, 0)) (fA1 BK191) hb); have n4_ := Aside0.mk (blk_below (g := gb192) (o := .cells #[u193000, u193001] 28 (0, 0)) (fA1 BK192) hb); have n5_ := Aside0.mk (Kd.C_below (by repeat (first | (with_reducible exact HR199_1.out) | (with_reducible refine Kd.C_alloc ?_ _) | (with_reducible refine Kd.C_drewN ?_ _) | (with_reducible refine Kd.C_drew ?_) | exact HR199_1.out)) hb); have n6_ := Aside0.mk (below_step (fB2 GE191 GE192) hb); clear HO_4; clear HO_193000; clear HO_193001; clear BK191; clear BK192; clear HR199_1; clear HB; have HO_4 := n0_; have HO_193000 := n1_; have HO_193001 := n2_; have BK191 := n3_; have BK192 := n4_; have HR199_1 := n5_; have HB := n6_; clear n0_ n1_ n2_ n3_ n4_ n5_ n6_; (try clear hb); (try clear hb2); (try clear hk); (try clear hi)) | ((with_reducible refine gate_dst (N := 11) rfl ?_); (try (refine gate_guard (by rfl) ?_; dsimp only)); refine box_event ?hg (N := 11) ?hd (cs := #[.string (⟨#[]⟩ : ByteArray), .int .i64 0, .int .i64 0, .int .i64 0]) (t := 52) ?hr ?_; (case hd => rfl); (case hg => rfl); (case hr => first | (go_simp; done) | (go_simp; rfl)); intro gb213 hg w25 hbox hb; have n0_ := Aside0.mk (Kd.S_below (fA2 HO_4) hb); have n1_ := Aside0.mk (Kd.R_below (Kd.R_elderB (fA0 HO_193000) gb213 (Nat.le_of_eq hg.symm)) hb); have n2_ := Aside0.mk (Kd.R_below (fA0 HO_193001) hb); have n3_ := Aside0.mk (blk_below (g := gb191) (o := .cells #[.slice none 0 0, .slice none 0 0] 28 (0, 0)) (fA1 BK191) hb); have n4_ := Aside0.mk (blk_below (g := gb192) (o := .cells #[u193000, u193001] 28 (0, 0)) (fA1 BK192) hb); have n5_ := Aside0.mk (Kd.C_below (by repeat (first | (with_reducible exact HR199_1.out) | (with_reducible refine Kd.C_alloc ?_ _) | (with_reducible refine Kd.C_drewN ?_ _) | (with_reducible refine Kd.C_drew ?_) | exact HR199_1.out)) hb); have n6_ := Aside0.mk (below_step (fB2 GE191 GE192) hb); have n7_ := Aside0.mk (hbox); have n8_ := Aside0.mk ((by rw [hg]; exact (below_size (fB2 GE191 GE192)) : w.heap.size ≤ gb213)); have n9_ := Aside0.mk ((by rw [hg]; exact (below_size (fB2 GE191 GE192)) : w.heap.size ≤ gb213)); have n10_ := Aside0.mk ((by rw [hg]; exact Nat.ne_of_lt (blk_lt (g := gb191) (o := .cells #[.slice none 0 0, .slice none 0 0] 28 (0, 0)) (fA1 BK191)) : gb191 ≠ gb213)); have n11_ := Aside0.mk ((by rw [hg]; exact Nat.ne_of_gt (blk_lt (g := gb191) (o := .cells #[.slice none 0 0, .slice none 0 0] 28 (0, 0)) (fA1 BK191)) : gb213 ≠ gb191)); have n12_ := Aside0.mk ((by rw [hg]; exact Nat.ne_of_lt (blk_lt (g := gb192) (o := .cells #[u193000, u193001] 28 (0, 0)) (fA1 BK192)) : gb192 ≠ gb213)); have n13_ := Aside0.mk ((by rw [hg]; exact Nat.ne_of_gt (blk_lt (g := gb192) (o := .cells #[u193000, u193001] 28 (0, 0)) (fA1 BK192)) : gb213 ≠ gb192)); clear HO_4; clear HO_193000; clear HO_193001; clear BK191; clear BK192; clear HR199_1; clear HB; have HO_4 := n0_; have HO_193000 := n1_; have HO_193001 := n2_; have BK191 := n3_; have BK192 := n4_; have HR199_1 := n5_; have HB := n6_; have BK213 := n7_; have GW213 := n8_; have GE213 := n9_; have NB191_213 := n10_; have NB213_191 := n11_; have NB192_213 := n12_; have NB213_192 := n13_; clear n0_ n1_ n2_ n3_ n4_ n5_ n6_ n7_ n8_ n9_ n10_ n11_ n12_ n13_; clear hb hbox hg; have hnb26 := NB213_191.out; have hnc26 := NB191_213.out; have hnb27 := NB213_192.out; have hnc27 := NB192_213.out; have hcz28_0 : w25.cell? ⟨gb213, 0, none⟩ = some (.string (⟨#[]⟩ : ByteArray)) := (blk_cell BK213.out 0).trans rfl; have hcz28_1 : w25.cell? ⟨gb213, 1, none⟩ = some (.int .i64 0) := (blk_cell BK213.out 1).trans rfl; have hcz28_2 : w25.cell? ⟨gb213, 2, none⟩ = some (.int .i64 0) := (blk_cell BK213.out 2).trans rfl; have hcz28_3 : w25.cell? ⟨gb213, 3, none⟩ = some (.int .i64 0) := (blk_cell BK213.out 3).trans rfl; have hfz28_0 := blk_frozen BK213.out 0; have hfz28_1 := blk_frozen BK213.out 1; have hfz28_2 := blk_frozen BK213.out 2; have hfz28_3 := blk_frozen BK213.out 3; have hnb29 := NB192_191.out; have hnc29 := NB191_192.out; have hcz30_0 : w25.cell? ⟨gb192, 0, none⟩ = some (u193000) := (blk_cell BK192.out 0).trans rfl; have hcz30_1 : w25.cell? ⟨gb192, 1, none⟩ = some (u193001) := (blk_cell BK192.out 1).trans rfl; have hfz30_0 := blk_frozen BK192.out 0; have hfz30_1 := blk_frozen BK192.out 1; obtain ⟨Ao31, co31, eo31⟩ := Kd.R_slice HO_193000.out; subst eo31) | ((with_reducible refine gate_builtin (b := .append) (xs := #[.tmp 75, .tmp 77]) rfl ?_); (try (refine gate_guard (by rfl) ?_; dsimp only)); at_builtin; refine Kd.R_append k52 (w0 := w) w.heap.size rfl (.tmp 75) (.tmp 77) 25 52 (.agg #[(.string ⟨#[]⟩), (.int .i64 0), (.int .i64 0), (.int .i64 0)]) 40 rfl Try.underlying25 info52 rfl (by decide) (by omega) (.slice Ao31 x193000_1.length co31) x193000_1 (⟨t208, t209, t210, t211⟩ : S52) [.string t208, .int .i64 t209, .int .i64 t210, .int .i64 t211] (fun k_ => k_ ≠ gb213) (fun _ => False) rfl (by first | (go_simp; done) | (go_simp; rfl)) ?aP (fun _ hk => hk.elim) ?aF ?aO ?aB ?aS ?aL ?_; (case aP => exact k52_mkM _ _ _ (⟨t208, t209, t210, t211⟩ : S52)); (case aB => exact (fB3 GE191 GE192 GE213)); (case aF => exact (fun k_ hk => Kd.freshB (g := gb213) (o := .cells #[.string t208, .int .i64 t209, .int .i64 t210, .int .i64 t211] 52 (0, 0)) (by (with_reducible repeat (first | refine blk_drewN ?_ _ | refine blk_drew ?_ | refine blk_alloc ?_ _)); refine blk_put (cs := #[.string t208, .int .i64 t209, .int .i64 t210, .int .i64 0]) ?_ 3 _ rfl; (with_reducible repeat (first | refine blk_drewN ?_ _ | refine blk_drew ?_ | refine blk_alloc ?_ _)); refine blk_put (cs := #[.string t208, .int .i64 t209, .int .i64 0, .int .i64 0]) ?_ 2 _ rfl; (with_reducible repeat (first | refine blk_drewN ?_ _ | refine blk_drew ?_ | refine blk_alloc ?_ _)); refine blk_put (cs := #[.string t208, .int .i64 0, .int .i64 0, .int .i64 0]) ?_ 1 _ rfl; (with_reducible repeat (first | refine blk_drewN ?_ _ | refine blk_drew ?_ | refine blk_alloc ?_ _)); refine blk_put (cs := #[.string (⟨#[]⟩ : ByteArray), .int .i64 0, .int .i64 0, .int .i64 0]) ?_ 0 _ rfl; (with_reducible repeat (first | refine blk_drewN ?_ _ | refine blk_drew ?_ | refine blk_alloc ?_ _)); exact BK213.out) k_ hk)); (case aO => exact (by (with_reducible repeat (first | apply Kd.R_alloc | apply Kd.R_drewN | apply Kd.R_drew)); exact Kd.R_mono (Kd.R_far (p := ⟨gb213, 3, none⟩) (Kd.R_far (p := ⟨gb213, 2, none⟩) (Kd.R_far (p := ⟨gb213, 1, none⟩) (Kd.R_far (p := ⟨gb213, 0, none⟩) (Kd.R_mono HO_193000.out (fun k_ hk => (⟨hk, hk.2⟩ : _ ∧ k_ ≠ gb213))) (fun _ hk => hk.2) (.string t208)) (fun _ hk => hk.2) (.int .i64 t209)) (fun _ hk => hk.2) (.int .i64 t210)) (fun _ hk => hk.2) (.int .i64 t211)) (fun _ hk => hk.1.2))); (case aS => exact (below_size (fB3 GE191 GE192 GE213))); (case aL => have := LMc23.out; omega); intro v215 w32 ho hb hg hat; rw [← Ny214.out] at ho; have n0_ := Aside0.mk (Kd.S_over' (by (with_reducible repeat (first | apply Kd.S_alloc | apply Kd.S_drewN | apply Kd.S_drew)); exact (Kd.S_mono (Kd.S_far (p := ⟨gb213, 3, none⟩) (Kd.S_far (p := ⟨gb213, 2, none⟩) (Kd.S_far (p := ⟨gb213, 1, none⟩) (Kd.S_far (p := ⟨gb213, 0, none⟩) (Kd.S_types HO_4.out BK213.out (by decide)) (fun _ hk => hk.2) (.string t208)) (fun _ hk => hk.2) (.int .i64 t209)) (fun _ hk => hk.2) (.int .i64 t210)) (fun _ hk => hk.2) (.int .i64 t211)) (fun _ h_ => h_.1))) (Kd.R_typed (by (with_reducible repeat (first | apply Kd.R_alloc | apply Kd.R_drewN | apply Kd.R_drew)); exact (Kd.R_mono (Kd.R_far (p := ⟨gb213, 3, none⟩) (Kd.R_far (p := ⟨gb213, 2, none⟩) (Kd.R_far (p := ⟨gb213, 1, none⟩) (Kd.R_far (p := ⟨gb213, 0, none⟩) (Kd.R_mono HO_193000.out (fun k_ hk => (⟨hk, hk.2⟩ : _ ∧ k_ ≠ gb213))) (fun _ hk => hk.2) (.string t208)) (fun _ hk => hk.2) (.int .i64 t209)) (fun _ hk => hk.2) (.int .i64 t210)) (fun _ hk => hk.2) (.int .i64 t211)) (fun _ h_ => h_.1)))) (by decide) hg); have n1_ := Aside0.mk (Kd.R_over' (by (with_reducible repeat (first | apply Kd.R_alloc | apply Kd.R_drewN | apply Kd.R_drew)); exact (Kd.R_mono (Kd.R_far (p := ⟨gb213, 3, none⟩) (Kd.R_far (p := ⟨gb213, 2, none⟩) (Kd.R_far (p := ⟨gb213, 1, none⟩) (Kd.R_far (p := ⟨gb213, 0, none⟩) (Kd.R_types HO_193001.out BK213.out (by decide)) (fun _ hk => hk.2) (.string t208)) (fun _ hk => hk.2) (.int .i64 t209)) (fun _ hk => hk.2) (.int .i64 t210)) (fun _ hk => hk.2) (.int .i64 t211)) (fun _ h_ => h_.1))) (Kd.R_typed (by (with_reducible repeat (first | apply Kd.R_alloc | apply Kd.R_drewN | apply Kd.R_drew)); exact (Kd.R_mono (Kd.R_far (p := ⟨gb213, 3, none⟩) (Kd.R_far (p := ⟨gb213, 2, none⟩) (Kd.R_far (p := ⟨gb213, 1, none⟩) (Kd.R_far (p := ⟨gb213, 0, none⟩) (Kd.R_mono HO_193000.out (fun k_ hk => (⟨hk, hk.2⟩ : _ ∧ k_ ≠ gb213))) (fun _ hk => hk.2) (.string t208)) (fun _ hk => hk.2) (.int .i64 t209)) (fun _ hk => hk.2) (.int .i64 t210)) (fun _ hk => hk.2) (.int .i64 t211)) (fun _ h_ => h_.1)))) (by decide) hg); have n2_ := Aside0.mk (blk_grown (g := gb191) (o := .cells #[.slice none 0 0, .slice none 0 0] 28 (0, 0)) (by (with_reducible repeat (first | refine blk_drewN ?_ _ | refine blk_drew ?_ | refine blk_alloc ?_ _)); refine blk_far ?_ NB191_213.out _; (with_reducible repeat (first | refine blk_drewN ?_ _ | refine blk_drew ?_ | refine blk_alloc ?_ _)); refine blk_far ?_ NB191_213.out _; (with_reducible repeat (first | refine blk_drewN ?_ _ | refine blk_drew ?_ | refine blk_alloc ?_ _)); refine blk_far ?_ NB191_213.out _; (with_reducible repeat (first | refine blk_drewN ?_ _ | refine blk_drew ?_ | refine blk_alloc ?_ _)); refine blk_far ?_ NB191_213.out _; (with_reducible repeat (first | refine blk_drewN ?_ _ | refine blk_drew ?_ | refine blk_alloc ?_ _)); exact BK191.out) hg (Kd.R_ne HO_193000.out BK191.out (by decide))); have n3_ := Aside0.mk (blk_grown (g := gb192) (o := .cells #[.slice Ao31 x193000_1.length co31, u193001] 28 (0, 0)) (by (with_reducible repeat (first | refine blk_drewN ?_ _ | refine blk_drew ?_ | refine blk_alloc ?_ _)); refine blk_far ?_ NB192_213.out _; (with_reducible repeat (first | refine blk_drewN ?_ _ | refine blk_drew ?_ | refine blk_alloc ?_ _)); refine blk_far ?_ NB192_213.out _; (with_reducible repeat (first | refine blk_drewN ?_ _ | refine blk_drew ?_ | refine blk_alloc ?_ _)); refine blk_far ?_ NB192_213.out _; (with_reducible repeat (first | refine blk_drewN ?_ _ | refine blk_drew ?_ | refine blk_alloc ?_ _)); refine blk_far ?_ NB192_213.out _; (with_reducible repeat (first | refine blk_drewN ?_ _ | refine blk_drew ?_ | refine blk_alloc ?_ _)); exact BK192.out) hg (Kd.R_ne HO_193000.out BK192.out (by decide))); have n4_ := Aside0.mk (blk_grown (g := gb213) (o := .cells #[.string t208, .int .i64 t209, .int .i64 t210, .int .i64 t211] 52 (0, 0)) (by (with_reducible repeat (first | refine blk_drewN ?_ _ | refine blk_drew ?_ | refine blk_alloc ?_ _)); refine blk_put (cs := #[.string t208, .int .i64 t209, .int .i64 t210, .int .i64 0]) ?_ 3 _ rfl; (with_reducible repeat (first | refine blk_drewN ?_ _ | refine blk_drew ?_ | refine blk_alloc ?_ _)); refine blk_put (cs := #[.string t208, .int .i64 t209, .int .i64 0, .int .i64 0]) ?_ 2 _ rfl; (with_reducible repeat (first | refine blk_drewN ?_ _ | refine blk_drew ?_ | refine blk_alloc ?_ _)); refine blk_put (cs := #[.string t208, .int .i64 0, .int .i64 0, .int .i64 0]) ?_ 1 _ rfl; (with_reducible repeat (first | refine blk_drewN ?_ _ | refine blk_drew ?_ | refine blk_alloc ?_ _)); refine blk_put (cs := #[.string (⟨#[]⟩ : ByteArray), .int .i64 0, .int .i64 0, .int .i64 0]) ?_ 0 _ rfl; (with_reducible repeat (first | refine blk_drewN ?_ _ | refine blk_drew ?_ | refine blk_alloc ?_ _)); exact BK213.out) hg (Kd.R_away HO_193000.out (fun _ hk => hk.2))); have n5_ := Aside0.mk (hb); have n6_ := Aside0.mk (ho); clear HO_4; clear HO_193001; clear BK191; clear BK192; clear BK213; clear HB; clear HO_193000; have HO_4 := n0_; have HO_193001 := n1_; have BK191 := n2_; have BK192 := n3_; have BK213 := n4_; have HB := n5_; have HO216 := n6_; clear n0_ n1_ n2_ n3_ n4_ n5_ n6_; clear ho hb hg hat; obtain ⟨Ao33, co33, eo33⟩ := Kd.R_slice HO216.out; subst eo33; have hcz34_0 : w32.cell? ⟨gb192, 0, none⟩ = some (.slice Ao31 x193000_1.length co31) := (blk_cell BK192.out 0).trans rfl; have hcz34_1 : w32.cell? ⟨gb192, 1, none⟩ = some (u193001) := (blk_cell BK192.out 1).trans rfl; have hfz34_0 := blk_frozen BK192.out 0; have hfz34_1 := blk_frozen BK192.out 1))
                go_roundg kj7
                case measure => have := HK1.out; have := HJ7.out; omega
                case rel => exact ⟨(wrap64 (x5_1 + 1)), (y214), (x193001_1), (.slice Ao33 y214.length co33), (u193001), s1_, H', ⟨by have := HK1.out; have := HJ7.out; omega⟩, ⟨by (with_reducible repeat (first | apply Kd.S_alloc | apply Kd.S_drewN | apply Kd.S_drew)); exact Kd.S_mono (Kd.S_far (p := ⟨gb192, 0, none⟩) (Kd.S_types HO_4.out BK192.out (by decide)) (fun _ hk => hk.2) (.slice Ao33 y214.length co33)) (fun _ hk => hk.1)⟩, ⟨by (with_reducible repeat (first | apply Kd.R_alloc | apply Kd.R_drewN | apply Kd.R_drew)); exact Kd.R_mono (Kd.R_far (p := ⟨gb192, 0, none⟩) (Kd.R_types HO216.out BK192.out (by decide)) (fun _ hk => hk.2) (.slice Ao33 y214.length co33)) (fun _ hk => trivial)⟩, ⟨by (with_reducible repeat (first | apply Kd.R_alloc | apply Kd.R_drewN | apply Kd.R_drew)); exact Kd.R_mono (Kd.R_far (p := ⟨gb192, 0, none⟩) (Kd.R_types HO_193001.out BK192.out (by decide)) (fun _ hk => hk.2) (.slice Ao33 y214.length co33)) (fun _ hk => trivial)⟩, ⟨by (with_reducible repeat (first | refine blk_drewN ?_ _ | refine blk_drew ?_ | refine blk_alloc ?_ _)); refine blk_far ?_ NB191_192.out _; (with_reducible repeat (first | refine blk_drewN ?_ _ | refine blk_drew ?_ | refine blk_alloc ?_ _)); exact BK191.out⟩, ⟨by (with_reducible repeat (first | refine blk_drewN ?_ _ | refine blk_drew ?_ | refine blk_alloc ?_ _)); refine blk_put (cs := #[.slice Ao31 x193000_1.length co31, u193001]) ?_ 0 _ rfl; (with_reducible repeat (first | refine blk_drewN ?_ _ | refine blk_drew ?_ | refine blk_alloc ?_ _)); exact BK192.out⟩, ⟨(fB3 GE191 GE192 GE213)⟩⟩
               ·rw [if_neg c23] at H
                exact absurd H (by simp)
              ·rw [if_neg c22] at H
               have c22b0 : decide ((x193000_1.length : Int) < 32) = false := decide_eq_false c22
               have c22b1 : decide (x193000_1.length < 32) = false := decide_eq_false (by omega)
               clear c22
               have H' := Aside0.mk H
               clear H
               have p201 : 0 ≤ (2 : Int) := (by omega)
               have q201 : 2 < (((rd_T48 t193 x5_1).f1).length : Int) := of_decide_eq_true (by first | (with_reducible assumption) | assumption)
               obtain ⟨ad201, e201, hx201_0⟩ := Kd.at_string (by repeat (first | (with_reducible exact HR199_1.out) | (with_reducible refine Kd.C_alloc ?_ _) | (with_reducible refine Kd.C_drewN ?_ _) | (with_reducible refine Kd.C_drew ?_) | exact HR199_1.out)) 2 p201 q201
               cases e201
               (try simp only [show (2 : Int).toNat = 2 from rfl, Nat.reduceMul, Nat.reduceEqDiff, Go.Addr.add, ↓reduceIte] at hx201_0)
               have qi201 : (2 < ((rd_T48 t193 x5_1).f1).length) = True := eq_true (by omega)
               (try rw [show ((2 : Int)).toNat = 2 from rfl] at hx201_0)
               replace p201 := eq_true p201
               replace q201 := eq_true q201
               go_wp2_with (first | ((with_reducible refine gate_callee (f := 22) rfl ?_); refine goesL_ (some 42) rfl rfl Try.func22 (by kernel_rfl) rfl #[.string (rdOf ByteArray.empty ((rd_T48 t193 x5_1).f1) 2), .int .i64 1000] rfl s2_ ?_; (with_reducible refine (conciergeref2_Num.calls kj7 (rdOf ByteArray.empty ((rd_T48 t193 x5_1).f1) 2) 1000 t202 true _ A14.out).mono ?_); rintro e w' ⟨rfl, ⟨nd, rfl⟩⟩; refine ⟨_, rfl, ?_⟩; (try (rw [drewN_self wc]; generalize hq_ : World.drewN wc _ = wc; have n0_ : Aside0 (Kd.R k52 52 wc w.heap.size (fun _ => True) u193000 x193000_1) := ⟨by rw [← hq_]; exact (fA0 HO_193000)⟩; have n1_ : Aside0 (Kd.R Kd.string 9 wc w.heap.size (fun _ => True) u193001 x193001_1) := ⟨by rw [← hq_]; exact (fA0 HO_193001)⟩; have n2_ : Aside0 (Kd.S k48 48 wc w.heap.size (fun k_ => some k_ ≠ (u193001 : Value).ownBlock) (.slice (some ad199) t193.length co9) t193) := ⟨by rw [← hq_]; exact (fA2 HO_4)⟩; have n3_ : Aside0 (wc.heap[gb191]? = some (.cells #[.slice none 0 0, .slice none 0 0] 28 (0, 0))) := ⟨by rw [← hq_]; exact (fA1 BK191)⟩; have n4_ : Aside0 (wc.heap[gb192]? = some (.cells #[u193000, u193001] 28 (0, 0))) := ⟨by rw [← hq_]; exact (fA1 BK192)⟩; have n5_ : Aside0 (Below w.heap.size w wc) := ⟨by rw [← hq_]; exact (fB2 GE191 GE192)⟩; have n6_ : Aside0 (Kd.C Kd.string wc (some ad201) ((rd_T48 t193 x5_1).f1).length ((rd_T48 t193 x5_1).f1)) := ⟨by rw [← hq_]; exact (by repeat (first | (with_reducible exact HR199_1.out) | (with_reducible refine Kd.C_alloc ?_ _) | (with_reducible refine Kd.C_drewN ?_ _) | (with_reducible refine Kd.C_drew ?_) | exact HR199_1.out))⟩; clear HO_193000 HO_193001 HO_4 BK191 BK192 HB HR199_1 hq_; have HO_193000 := n0_; have HO_193001 := n1_; have HO_4 := n2_; have BK191 := n3_; have BK192 := n4_; have HB := n5_; have HR199_1 := n6_; clear n0_ n1_ n2_ n3_ n4_ n5_ n6_)); have p204 : 0 ≤ (3 : Int) := (by omega); have q204 : 3 < (((rd_T48 t193 x5_1).f1).length : Int) := of_decide_eq_true (by first | (with_reducible assumption) | assumption); obtain ⟨ad204, e204, hx204_0⟩ := Kd.at_string (by repeat (first | (with_reducible exact HR199_1.out) | (with_reducible refine Kd.C_alloc ?_ _) | (with_reducible refine Kd.C_drewN ?_ _) | (with_reducible refine Kd.C_drew ?_) | exact HR199_1.out)) 3 p204 q204; obtain rfl : ad201 = ad204 := (by injection e204); (try simp only [show (3 : Int).toNat = 3 from rfl, Nat.reduceMul, Nat.reduceEqDiff, Go.Addr.add, ↓reduceIte] at hx204_0); have qi204 : (3 < ((rd_T48 t193 x5_1).f1).length) = True := eq_true (by omega); (try rw [show ((3 : Int)).toNat = 3 from rfl] at hx204_0); replace p204 := eq_true p204; replace q204 := eq_true q204) | ((with_reducible refine gate_callee (f := 22) rfl ?_); refine goesL_ (some 49) rfl rfl Try.func22 (by kernel_rfl) rfl #[.string (rdOf ByteArray.empty ((rd_T48 t193 x5_1).f1) 3), .int .i64 1000] rfl s2_ ?_; (with_reducible refine (conciergeref2_Num.calls kj7 (rdOf ByteArray.empty ((rd_T48 t193 x5_1).f1) 3) 1000 t205 true _ A16.out).mono ?_); rintro e w' ⟨rfl, ⟨nd, rfl⟩⟩; refine ⟨_, rfl, ?_⟩; (try (rw [drewN_self wc]; generalize hq_ : World.drewN wc _ = wc; have n0_ : Aside0 (Kd.R k52 52 wc w.heap.size (fun _ => True) u193000 x193000_1) := ⟨by rw [← hq_]; exact (fA0 HO_193000)⟩; have n1_ : Aside0 (Kd.R Kd.string 9 wc w.heap.size (fun _ => True) u193001 x193001_1) := ⟨by rw [← hq_]; exact (fA0 HO_193001)⟩; have n2_ : Aside0 (Kd.S k48 48 wc w.heap.size (fun k_ => some k_ ≠ (u193001 : Value).ownBlock) (.slice (some ad199) t193.length co9) t193) := ⟨by rw [← hq_]; exact (fA2 HO_4)⟩; have n3_ : Aside0 (wc.heap[gb191]? = some (.cells #[.slice none 0 0, .slice none 0 0] 28 (0, 0))) := ⟨by rw [← hq_]; exact (fA1 BK191)⟩; have n4_ : Aside0 (wc.heap[gb192]? = some (.cells #[u193000, u193001] 28 (0, 0))) := ⟨by rw [← hq_]; exact (fA1 BK192)⟩; have n5_ : Aside0 (Below w.heap.size w wc) := ⟨by rw [← hq_]; exact (fB2 GE191 GE192)⟩; have n6_ : Aside0 (Kd.C Kd.string wc (some ad201) ((rd_T48 t193 x5_1).f1).length ((rd_T48 t193 x5_1).f1)) := ⟨by rw [← hq_]; exact (by repeat (first | (with_reducible exact HR199_1.out) | (with_reducible refine Kd.C_alloc ?_ _) | (with_reducible refine Kd.C_drewN ?_ _) | (with_reducible refine Kd.C_drew ?_) | exact HR199_1.out))⟩; clear HO_193000 HO_193001 HO_4 BK191 BK192 HB HR199_1 hq_; have HO_193000 := n0_; have HO_193001 := n1_; have HO_4 := n2_; have BK191 := n3_; have BK192 := n4_; have HB := n5_; have HR199_1 := n6_; clear n0_ n1_ n2_ n3_ n4_ n5_ n6_)); have p207 : 0 ≤ (1 : Int) := (by omega); have q207 : 1 < (((rd_T48 t193 x5_1).f1).length : Int) := of_decide_eq_true (by first | (with_reducible assumption) | assumption); obtain ⟨ad207, e207, hx207_0⟩ := Kd.at_string (by repeat (first | (with_reducible exact HR199_1.out) | (with_reducible refine Kd.C_alloc ?_ _) | (with_reducible refine Kd.C_drewN ?_ _) | (with_reducible refine Kd.C_drew ?_) | exact HR199_1.out)) 1 p207 q207; obtain rfl : ad201 = ad207 := (by injection e207); (try simp only [show (1 : Int).toNat = 1 from rfl, Nat.reduceMul, Nat.reduceEqDiff, Go.Addr.add, ↓reduceIte] at hx207_0); have qi207 : (1 < ((rd_T48 t193 x5_1).f1).length) = True := eq_true (by omega); (try rw [show ((1 : Int)).toNat = 1 from rfl] at hx207_0); replace p207 := eq_true p207; replace q207 := eq_true q207) | ((with_reducible refine gate_callee (f := 23) rfl ?_); refine goesL_ (some 58) rfl rfl Try.func23 (by kernel_rfl) rfl #[.string (rdOf ByteArray.empty ((rd_T48 t193 x5_1).f1) 1), .int .i64 t202, .int .i64 t205] rfl s2_ ?_; (with_reducible refine (conciergeref15_row.calls kj7 (rdOf ByteArray.empty ((rd_T48 t193 x5_1).f1) 1) t202 t205 t208 t209 t210 t211 true _ A18.out).mono ?_); rintro e w35 ⟨rfl, hb⟩; refine ⟨_, rfl, ?_⟩; have n0_ := Aside0.mk (Kd.S_below (fA2 HO_4) hb); have n1_ := Aside0.mk (Kd.R_below (fA0 HO_193000) hb); have n2_ := Aside0.mk (Kd.R_below (fA0 HO_193001) hb); have n3_ := Aside0.mk (blk_below (g := gb191) (o := .cells #[.slice none 0 0, .slice none 0 0] 28 (0, 0)) (fA1 BK191) hb); have n4_ := Aside0.mk (blk_below (g := gb192) (o := .cells #[u193000, u193001] 28 (0, 0)) (fA1 BK192) hb); have n5_ := Aside0.mk (Kd.C_below (by repeat (first | (with_reducible exact HR199_1.out) | (with_reducible refine Kd.C_alloc ?_ _) | (with_reducible refine Kd.C_drewN ?_ _) | (with_reducible refine Kd.C_drew ?_) | exact HR199_1.out)) hb); have n6_ := Aside0.mk (below_step (fB2 GE191 GE192) hb); clear HO_4; clear HO_193000; clear HO_193001; clear BK191; clear BK192; clear HR199_1; clear HB; have HO_4 := n0_; have HO_193000 := n1_; have HO_193001 := n2_; have BK191 := n3_; have BK192 := n4_; have HR199_1 := n5_; have HB := n6_; clear n0_ n1_ n2_ n3_ n4_ n5_ n6_; (try clear hb); (try clear hb2); (try clear hk); (try clear hi)) | ((with_reducible refine gate_dst (N := 11) rfl ?_); (try (refine gate_guard (by rfl) ?_; dsimp only)); refine box_event ?hg (N := 11) ?hd (cs := #[.string (⟨#[]⟩ : ByteArray), .int .i64 0, .int .i64 0, .int .i64 0]) (t := 52) ?hr ?_; (case hd => rfl); (case hg => rfl); (case hr => first | (go_simp; done) | (go_simp; rfl)); intro gb213 hg w36 hbox hb; have n0_ := Aside0.mk (Kd.S_below (fA2 HO_4) hb); have n1_ := Aside0.mk (Kd.R_below (Kd.R_elderB (fA0 HO_193000) gb213 (Nat.le_of_eq hg.symm)) hb); have n2_ := Aside0.mk (Kd.R_below (fA0 HO_193001) hb); have n3_ := Aside0.mk (blk_below (g := gb191) (o := .cells #[.slice none 0 0, .slice none 0 0] 28 (0, 0)) (fA1 BK191) hb); have n4_ := Aside0.mk (blk_below (g := gb192) (o := .cells #[u193000, u193001] 28 (0, 0)) (fA1 BK192) hb); have n5_ := Aside0.mk (Kd.C_below (by repeat (first | (with_reducible exact HR199_1.out) | (with_reducible refine Kd.C_alloc ?_ _) | (with_reducible refine Kd.C_drewN ?_ _) | (with_reducible refine Kd.C_drew ?_) | exact HR199_1.out)) hb); have n6_ := Aside0.mk (below_step (fB2 GE191 GE192) hb); have n7_ := Aside0.mk (hbox); have n8_ := Aside0.mk ((by rw [hg]; exact (below_size (fB2 GE191 GE192)) : w.heap.size ≤ gb213)); have n9_ := Aside0.mk ((by rw [hg]; exact (below_size (fB2 GE191 GE192)) : w.heap.size ≤ gb213)); have n10_ := Aside0.mk ((by rw [hg]; exact Nat.ne_of_lt (blk_lt (g := gb191) (o := .cells #[.slice none 0 0, .slice none 0 0] 28 (0, 0)) (fA1 BK191)) : gb191 ≠ gb213)); have n11_ := Aside0.mk ((by rw [hg]; exact Nat.ne_of_gt (blk_lt (g := gb191) (o := .cells #[.slice none 0 0, .slice none 0 0] 28 (0, 0)) (fA1 BK191)) : gb213 ≠ gb191)); have n12_ := Aside0.mk ((by rw [hg]; exact Nat.ne_of_lt (blk_lt (g := gb192) (o := .cells #[u193000, u193001] 28 (0, 0)) (fA1 BK192)) : gb192 ≠ gb213)); have n13_ := Aside0.mk ((by rw [hg]; exact Nat.ne_of_gt (blk_lt (g := gb192) (o := .cells #[u193000, u193001] 28 (0, 0)) (fA1 BK192)) : gb213 ≠ gb192)); clear HO_4; clear HO_193000; clear HO_193001; clear BK191; clear BK192; clear HR199_1; clear HB; have HO_4 := n0_; have HO_193000 := n1_; have HO_193001 := n2_; have BK191 := n3_; have BK192 := n4_; have HR199_1 := n5_; have HB := n6_; have BK213 := n7_; have GW213 := n8_; have GE213 := n9_; have NB191_213 := n10_; have NB213_191 := n11_; have NB192_213 := n12_; have NB213_192 := n13_; clear n0_ n1_ n2_ n3_ n4_ n5_ n6_ n7_ n8_ n9_ n10_ n11_ n12_ n13_; clear hb hbox hg; have hnb37 := NB213_191.out; have hnc37 := NB191_213.out; have hnb38 := NB213_192.out; have hnc38 := NB192_213.out; have hcz39_0 : w36.cell? ⟨gb213, 0, none⟩ = some (.string (⟨#[]⟩ : ByteArray)) := (blk_cell BK213.out 0).trans rfl; have hcz39_1 : w36.cell? ⟨gb213, 1, none⟩ = some (.int .i64 0) := (blk_cell BK213.out 1).trans rfl; have hcz39_2 : w36.cell? ⟨gb213, 2, none⟩ = some (.int .i64 0) := (blk_cell BK213.out 2).trans rfl; have hcz39_3 : w36.cell? ⟨gb213, 3, none⟩ = some (.int .i64 0) := (blk_cell BK213.out 3).trans rfl; have hfz39_0 := blk_frozen BK213.out 0; have hfz39_1 := blk_frozen BK213.out 1; have hfz39_2 := blk_frozen BK213.out 2; have hfz39_3 := blk_frozen BK213.out 3; have hnb40 := NB192_191.out; have hnc40 := NB191_192.out; have hcz41_0 : w36.cell? ⟨gb192, 0, none⟩ = some (u193000) := (blk_cell BK192.out 0).trans rfl; have hcz41_1 : w36.cell? ⟨gb192, 1, none⟩ = some (u193001) := (blk_cell BK192.out 1).trans rfl; have hfz41_0 := blk_frozen BK192.out 0; have hfz41_1 := blk_frozen BK192.out 1; obtain ⟨Ao42, co42, eo42⟩ := Kd.R_slice HO_193000.out; subst eo42))
               go_roundg kj7
               case measure => have := HK1.out; have := HJ7.out; omega
               case rel => exact ⟨(wrap64 (x5_1 + 1)), (x193000_1), (x193001_1), (.slice Ao42 x193000_1.length co42), (u193001), s1_, H', ⟨by have := HK1.out; have := HJ7.out; omega⟩, ⟨by (with_reducible repeat (first | apply Kd.S_alloc | apply Kd.S_drewN | apply Kd.S_drew)); exact Kd.S_mono (Kd.S_far (p := ⟨gb213, 3, none⟩) (Kd.S_far (p := ⟨gb213, 2, none⟩) (Kd.S_far (p := ⟨gb213, 1, none⟩) (Kd.S_far (p := ⟨gb213, 0, none⟩) (Kd.S_types HO_4.out BK213.out (by decide)) (fun _ hk => hk.2) (.string t208)) (fun _ hk => hk.2) (.int .i64 t209)) (fun _ hk => hk.2) (.int .i64 t210)) (fun _ hk => hk.2) (.int .i64 t211)) (fun _ hk => hk.1)⟩, ⟨by (with_reducible repeat (first | apply Kd.R_alloc | apply Kd.R_drewN | apply Kd.R_drew)); exact Kd.R_mono (Kd.R_far (p := ⟨gb213, 3, none⟩) (Kd.R_far (p := ⟨gb213, 2, none⟩) (Kd.R_far (p := ⟨gb213, 1, none⟩) (Kd.R_far (p := ⟨gb213, 0, none⟩) (Kd.R_mono HO_193000.out (fun k_ hk => (⟨hk, hk.2⟩ : _ ∧ k_ ≠ gb213))) (fun _ hk => hk.2) (.string t208)) (fun _ hk => hk.2) (.int .i64 t209)) (fun _ hk => hk.2) (.int .i64 t210)) (fun _ hk => hk.2) (.int .i64 t211)) (fun _ hk => trivial)⟩, ⟨by (with_reducible repeat (first | apply Kd.R_alloc | apply Kd.R_drewN | apply Kd.R_drew)); exact Kd.R_mono (Kd.R_far (p := ⟨gb213, 3, none⟩) (Kd.R_far (p := ⟨gb213, 2, none⟩) (Kd.R_far (p := ⟨gb213, 1, none⟩) (Kd.R_far (p := ⟨gb213, 0, none⟩) (Kd.R_types HO_193001.out BK213.out (by decide)) (fun _ hk => hk.2) (.string t208)) (fun _ hk => hk.2) (.int .i64 t209)) (fun _ hk => hk.2) (.int .i64 t210)) (fun _ hk => hk.2) (.int .i64 t211)) (fun _ hk => trivial)⟩, ⟨by (with_reducible repeat (first | refine blk_drewN ?_ _ | refine blk_drew ?_ | refine blk_alloc ?_ _)); refine blk_far ?_ NB191_213.out _; (with_reducible repeat (first | refine blk_drewN ?_ _ | refine blk_drew ?_ | refine blk_alloc ?_ _)); refine blk_far ?_ NB191_213.out _; (with_reducible repeat (first | refine blk_drewN ?_ _ | refine blk_drew ?_ | refine blk_alloc ?_ _)); refine blk_far ?_ NB191_213.out _; (with_reducible repeat (first | refine blk_drewN ?_ _ | refine blk_drew ?_ | refine blk_alloc ?_ _)); refine blk_far ?_ NB191_213.out _; (with_reducible repeat (first | refine blk_drewN ?_ _ | refine blk_drew ?_ | refine blk_alloc ?_ _)); exact BK191.out⟩, ⟨by (with_reducible repeat (first | refine blk_drewN ?_ _ | refine blk_drew ?_ | refine blk_alloc ?_ _)); refine blk_far ?_ NB192_213.out _; (with_reducible repeat (first | refine blk_drewN ?_ _ | refine blk_drew ?_ | refine blk_alloc ?_ _)); refine blk_far ?_ NB192_213.out _; (with_reducible repeat (first | refine blk_drewN ?_ _ | refine blk_drew ?_ | refine blk_alloc ?_ _)); refine blk_far ?_ NB192_213.out _; (with_reducible repeat (first | refine blk_drewN ?_ _ | refine blk_drew ?_ | refine blk_alloc ?_ _)); refine blk_far ?_ NB192_213.out _; (with_reducible repeat (first | refine blk_drewN ?_ _ | refine blk_drew ?_ | refine blk_alloc ?_ _)); exact BK192.out⟩, ⟨(fB3 GE191 GE192 GE213)⟩⟩
             ·replace c21 := Bool.eq_false_iff.mpr c21
              subst c21
              rw [if_neg (show ¬ (false = true) by decide)] at H
              have H' := Aside0.mk H
              clear H
              have p201 : 0 ≤ (2 : Int) := (by omega)
              have q201 : 2 < (((rd_T48 t193 x5_1).f1).length : Int) := of_decide_eq_true (by first | (with_reducible assumption) | assumption)
              obtain ⟨ad201, e201, hx201_0⟩ := Kd.at_string (by repeat (first | (with_reducible exact HR199_1.out) | (with_reducible refine Kd.C_alloc ?_ _) | (with_reducible refine Kd.C_drewN ?_ _) | (with_reducible refine Kd.C_drew ?_) | exact HR199_1.out)) 2 p201 q201
              cases e201
              (try simp only [show (2 : Int).toNat = 2 from rfl, Nat.reduceMul, Nat.reduceEqDiff, Go.Addr.add, ↓reduceIte] at hx201_0)
              have qi201 : (2 < ((rd_T48 t193 x5_1).f1).length) = True := eq_true (by omega)
              (try rw [show ((2 : Int)).toNat = 2 from rfl] at hx201_0)
              replace p201 := eq_true p201
              replace q201 := eq_true q201
              go_wp2_with (first | ((with_reducible refine gate_callee (f := 22) rfl ?_); refine goesL_ (some 42) rfl rfl Try.func22 (by kernel_rfl) rfl #[.string (rdOf ByteArray.empty ((rd_T48 t193 x5_1).f1) 2), .int .i64 1000] rfl s2_ ?_; (with_reducible refine (conciergeref2_Num.calls kj7 (rdOf ByteArray.empty ((rd_T48 t193 x5_1).f1) 2) 1000 t202 true _ A14.out).mono ?_); rintro e w' ⟨rfl, ⟨nd, rfl⟩⟩; refine ⟨_, rfl, ?_⟩; (try (rw [drewN_self wc]; generalize hq_ : World.drewN wc _ = wc; have n0_ : Aside0 (Kd.R k52 52 wc w.heap.size (fun _ => True) u193000 x193000_1) := ⟨by rw [← hq_]; exact (fA0 HO_193000)⟩; have n1_ : Aside0 (Kd.R Kd.string 9 wc w.heap.size (fun _ => True) u193001 x193001_1) := ⟨by rw [← hq_]; exact (fA0 HO_193001)⟩; have n2_ : Aside0 (Kd.S k48 48 wc w.heap.size (fun k_ => some k_ ≠ (u193001 : Value).ownBlock) (.slice (some ad199) t193.length co9) t193) := ⟨by rw [← hq_]; exact (fA2 HO_4)⟩; have n3_ : Aside0 (wc.heap[gb191]? = some (.cells #[.slice none 0 0, .slice none 0 0] 28 (0, 0))) := ⟨by rw [← hq_]; exact (fA1 BK191)⟩; have n4_ : Aside0 (wc.heap[gb192]? = some (.cells #[u193000, u193001] 28 (0, 0))) := ⟨by rw [← hq_]; exact (fA1 BK192)⟩; have n5_ : Aside0 (Below w.heap.size w wc) := ⟨by rw [← hq_]; exact (fB2 GE191 GE192)⟩; have n6_ : Aside0 (Kd.C Kd.string wc (some ad201) ((rd_T48 t193 x5_1).f1).length ((rd_T48 t193 x5_1).f1)) := ⟨by rw [← hq_]; exact (by repeat (first | (with_reducible exact HR199_1.out) | (with_reducible refine Kd.C_alloc ?_ _) | (with_reducible refine Kd.C_drewN ?_ _) | (with_reducible refine Kd.C_drew ?_) | exact HR199_1.out))⟩; clear HO_193000 HO_193001 HO_4 BK191 BK192 HB HR199_1 hq_; have HO_193000 := n0_; have HO_193001 := n1_; have HO_4 := n2_; have BK191 := n3_; have BK192 := n4_; have HB := n5_; have HR199_1 := n6_; clear n0_ n1_ n2_ n3_ n4_ n5_ n6_)); have p204 : 0 ≤ (3 : Int) := (by omega); have q204 : 3 < (((rd_T48 t193 x5_1).f1).length : Int) := of_decide_eq_true (by first | (with_reducible assumption) | assumption); obtain ⟨ad204, e204, hx204_0⟩ := Kd.at_string (by repeat (first | (with_reducible exact HR199_1.out) | (with_reducible refine Kd.C_alloc ?_ _) | (with_reducible refine Kd.C_drewN ?_ _) | (with_reducible refine Kd.C_drew ?_) | exact HR199_1.out)) 3 p204 q204; obtain rfl : ad201 = ad204 := (by injection e204); (try simp only [show (3 : Int).toNat = 3 from rfl, Nat.reduceMul, Nat.reduceEqDiff, Go.Addr.add, ↓reduceIte] at hx204_0); have qi204 : (3 < ((rd_T48 t193 x5_1).f1).length) = True := eq_true (by omega); (try rw [show ((3 : Int)).toNat = 3 from rfl] at hx204_0); replace p204 := eq_true p204; replace q204 := eq_true q204) | ((with_reducible refine gate_callee (f := 22) rfl ?_); refine goesL_ (some 49) rfl rfl Try.func22 (by kernel_rfl) rfl #[.string (rdOf ByteArray.empty ((rd_T48 t193 x5_1).f1) 3), .int .i64 1000] rfl s2_ ?_; (with_reducible refine (conciergeref2_Num.calls kj7 (rdOf ByteArray.empty ((rd_T48 t193 x5_1).f1) 3) 1000 t205 true _ A16.out).mono ?_); rintro e w' ⟨rfl, ⟨nd, rfl⟩⟩; refine ⟨_, rfl, ?_⟩; (try (rw [drewN_self wc]; generalize hq_ : World.drewN wc _ = wc; have n0_ : Aside0 (Kd.R k52 52 wc w.heap.size (fun _ => True) u193000 x193000_1) := ⟨by rw [← hq_]; exact (fA0 HO_193000)⟩; have n1_ : Aside0 (Kd.R Kd.string 9 wc w.heap.size (fun _ => True) u193001 x193001_1) := ⟨by rw [← hq_]; exact (fA0 HO_193001)⟩; have n2_ : Aside0 (Kd.S k48 48 wc w.heap.size (fun k_ => some k_ ≠ (u193001 : Value).ownBlock) (.slice (some ad199) t193.length co9) t193) := ⟨by rw [← hq_]; exact (fA2 HO_4)⟩; have n3_ : Aside0 (wc.heap[gb191]? = some (.cells #[.slice none 0 0, .slice none 0 0] 28 (0, 0))) := ⟨by rw [← hq_]; exact (fA1 BK191)⟩; have n4_ : Aside0 (wc.heap[gb192]? = some (.cells #[u193000, u193001] 28 (0, 0))) := ⟨by rw [← hq_]; exact (fA1 BK192)⟩; have n5_ : Aside0 (Below w.heap.size w wc) := ⟨by rw [← hq_]; exact (fB2 GE191 GE192)⟩; have n6_ : Aside0 (Kd.C Kd.string wc (some ad201) ((rd_T48 t193 x5_1).f1).length ((rd_T48 t193 x5_1).f1)) := ⟨by rw [← hq_]; exact (by repeat (first | (with_reducible exact HR199_1.out) | (with_reducible refine Kd.C_alloc ?_ _) | (with_reducible refine Kd.C_drewN ?_ _) | (with_reducible refine Kd.C_drew ?_) | exact HR199_1.out))⟩; clear HO_193000 HO_193001 HO_4 BK191 BK192 HB HR199_1 hq_; have HO_193000 := n0_; have HO_193001 := n1_; have HO_4 := n2_; have BK191 := n3_; have BK192 := n4_; have HB := n5_; have HR199_1 := n6_; clear n0_ n1_ n2_ n3_ n4_ n5_ n6_)); have p207 : 0 ≤ (1 : Int) := (by omega); have q207 : 1 < (((rd_T48 t193 x5_1).f1).length : Int) := of_decide_eq_true (by first | (with_reducible assumption) | assumption); obtain ⟨ad207, e207, hx207_0⟩ := Kd.at_string (by repeat (first | (with_reducible exact HR199_1.out) | (with_reducible refine Kd.C_alloc ?_ _) | (with_reducible refine Kd.C_drewN ?_ _) | (with_reducible refine Kd.C_drew ?_) | exact HR199_1.out)) 1 p207 q207; obtain rfl : ad201 = ad207 := (by injection e207); (try simp only [show (1 : Int).toNat = 1 from rfl, Nat.reduceMul, Nat.reduceEqDiff, Go.Addr.add, ↓reduceIte] at hx207_0); have qi207 : (1 < ((rd_T48 t193 x5_1).f1).length) = True := eq_true (by omega); (try rw [show ((1 : Int)).toNat = 1 from rfl] at hx207_0); replace p207 := eq_true p207; replace q207 := eq_true q207) | ((with_reducible refine gate_callee (f := 23) rfl ?_); refine goesL_ (some 58) rfl rfl Try.func23 (by kernel_rfl) rfl #[.string (rdOf ByteArray.empty ((rd_T48 t193 x5_1).f1) 1), .int .i64 t202, .int .i64 t205] rfl s2_ ?_; (with_reducible refine (conciergeref15_row.calls kj7 (rdOf ByteArray.empty ((rd_T48 t193 x5_1).f1) 1) t202 t205 t208 t209 t210 t211 false _ A18.out).mono ?_); rintro e w43 ⟨rfl, hb⟩; refine ⟨_, rfl, ?_⟩; have n0_ := Aside0.mk (Kd.S_below (fA2 HO_4) hb); have n1_ := Aside0.mk (Kd.R_below (fA0 HO_193000) hb); have n2_ := Aside0.mk (Kd.R_below (fA0 HO_193001) hb); have n3_ := Aside0.mk (blk_below (g := gb191) (o := .cells #[.slice none 0 0, .slice none 0 0] 28 (0, 0)) (fA1 BK191) hb); have n4_ := Aside0.mk (blk_below (g := gb192) (o := .cells #[u193000, u193001] 28 (0, 0)) (fA1 BK192) hb); have n5_ := Aside0.mk (Kd.C_below (by repeat (first | (with_reducible exact HR199_1.out) | (with_reducible refine Kd.C_alloc ?_ _) | (with_reducible refine Kd.C_drewN ?_ _) | (with_reducible refine Kd.C_drew ?_) | exact HR199_1.out)) hb); have n6_ := Aside0.mk (below_step (fB2 GE191 GE192) hb); clear HO_4; clear HO_193000; clear HO_193001; clear BK191; clear BK192; clear HR199_1; clear HB; have HO_4 := n0_; have HO_193000 := n1_; have HO_193001 := n2_; have BK191 := n3_; have BK192 := n4_; have HR199_1 := n5_; have HB := n6_; clear n0_ n1_ n2_ n3_ n4_ n5_ n6_; (try clear hb); (try clear hb2); (try clear hk); (try clear hi)) | ((with_reducible refine gate_dst (N := 11) rfl ?_); (try (refine gate_guard (by rfl) ?_; dsimp only)); refine box_event ?hg (N := 11) ?hd (cs := #[.string (⟨#[]⟩ : ByteArray), .int .i64 0, .int .i64 0, .int .i64 0]) (t := 52) ?hr ?_; (case hd => rfl); (case hg => rfl); (case hr => first | (go_simp; done) | (go_simp; rfl)); intro gb213 hg w44 hbox hb; have n0_ := Aside0.mk (Kd.S_below (fA2 HO_4) hb); have n1_ := Aside0.mk (Kd.R_below (Kd.R_elderB (fA0 HO_193000) gb213 (Nat.le_of_eq hg.symm)) hb); have n2_ := Aside0.mk (Kd.R_below (fA0 HO_193001) hb); have n3_ := Aside0.mk (blk_below (g := gb191) (o := .cells #[.slice none 0 0, .slice none 0 0] 28 (0, 0)) (fA1 BK191) hb); have n4_ := Aside0.mk (blk_below (g := gb192) (o := .cells #[u193000, u193001] 28 (0, 0)) (fA1 BK192) hb); have n5_ := Aside0.mk (Kd.C_below (by repeat (first | (with_reducible exact HR199_1.out) | (with_reducible refine Kd.C_alloc ?_ _) | (with_reducible refine Kd.C_drewN ?_ _) | (with_reducible refine Kd.C_drew ?_) | exact HR199_1.out)) hb); have n6_ := Aside0.mk (below_step (fB2 GE191 GE192) hb); have n7_ := Aside0.mk (hbox); have n8_ := Aside0.mk ((by rw [hg]; exact (below_size (fB2 GE191 GE192)) : w.heap.size ≤ gb213)); have n9_ := Aside0.mk ((by rw [hg]; exact (below_size (fB2 GE191 GE192)) : w.heap.size ≤ gb213)); have n10_ := Aside0.mk ((by rw [hg]; exact Nat.ne_of_lt (blk_lt (g := gb191) (o := .cells #[.slice none 0 0, .slice none 0 0] 28 (0, 0)) (fA1 BK191)) : gb191 ≠ gb213)); have n11_ := Aside0.mk ((by rw [hg]; exact Nat.ne_of_gt (blk_lt (g := gb191) (o := .cells #[.slice none 0 0, .slice none 0 0] 28 (0, 0)) (fA1 BK191)) : gb213 ≠ gb191)); have n12_ := Aside0.mk ((by rw [hg]; exact Nat.ne_of_lt (blk_lt (g := gb192) (o := .cells #[u193000, u193001] 28 (0, 0)) (fA1 BK192)) : gb192 ≠ gb213)); have n13_ := Aside0.mk ((by rw [hg]; exact Nat.ne_of_gt (blk_lt (g := gb192) (o := .cells #[u193000, u193001] 28 (0, 0)) (fA1 BK192)) : gb213 ≠ gb192)); clear HO_4; clear HO_193000; clear HO_193001; clear BK191; clear BK192; clear HR199_1; clear HB; have HO_4 := n0_; have HO_193000 := n1_; have HO_193001 := n2_; have BK191 := n3_; have BK192 := n4_; have HR199_1 := n5_; have HB := n6_; have BK213 := n7_; have GW213 := n8_; have GE213 := n9_; have NB191_213 := n10_; have NB213_191 := n11_; have NB192_213 := n12_; have NB213_192 := n13_; clear n0_ n1_ n2_ n3_ n4_ n5_ n6_ n7_ n8_ n9_ n10_ n11_ n12_ n13_; clear hb hbox hg; have hnb45 := NB213_191.out; have hnc45 := NB191_213.out; have hnb46 := NB213_192.out; have hnc46 := NB192_213.out; have hcz47_0 : w44.cell? ⟨gb213, 0, none⟩ = some (.string (⟨#[]⟩ : ByteArray)) := (blk_cell BK213.out 0).trans rfl; have hcz47_1 : w44.cell? ⟨gb213, 1, none⟩ = some (.int .i64 0) := (blk_cell BK213.out 1).trans rfl; have hcz47_2 : w44.cell? ⟨gb213, 2, none⟩ = some (.int .i64 0) := (blk_cell BK213.out 2).trans rfl; have hcz47_3 : w44.cell? ⟨gb213, 3, none⟩ = some (.int .i64 0) := (blk_cell BK213.out 3).trans rfl; have hfz47_0 := blk_frozen BK213.out 0; have hfz47_1 := blk_frozen BK213.out 1; have hfz47_2 := blk_frozen BK213.out 2; have hfz47_3 := blk_frozen BK213.out 3))
              go_roundg kj7
              case measure => have := HK1.out; have := HJ7.out; omega
              case rel => exact ⟨(wrap64 (x5_1 + 1)), (x193000_1), (x193001_1), (u193000), (u193001), s1_, H', ⟨by have := HK1.out; have := HJ7.out; omega⟩, ⟨by (with_reducible repeat (first | apply Kd.S_alloc | apply Kd.S_drewN | apply Kd.S_drew)); exact Kd.S_mono (Kd.S_far (p := ⟨gb213, 3, none⟩) (Kd.S_far (p := ⟨gb213, 2, none⟩) (Kd.S_far (p := ⟨gb213, 1, none⟩) (Kd.S_far (p := ⟨gb213, 0, none⟩) (Kd.S_types HO_4.out BK213.out (by decide)) (fun _ hk => hk.2) (.string t208)) (fun _ hk => hk.2) (.int .i64 t209)) (fun _ hk => hk.2) (.int .i64 t210)) (fun _ hk => hk.2) (.int .i64 t211)) (fun _ hk => hk.1)⟩, ⟨by (with_reducible repeat (first | apply Kd.R_alloc | apply Kd.R_drewN | apply Kd.R_drew)); exact Kd.R_mono (Kd.R_far (p := ⟨gb213, 3, none⟩) (Kd.R_far (p := ⟨gb213, 2, none⟩) (Kd.R_far (p := ⟨gb213, 1, none⟩) (Kd.R_far (p := ⟨gb213, 0, none⟩) (Kd.R_mono HO_193000.out (fun k_ hk => (⟨hk, hk.2⟩ : _ ∧ k_ ≠ gb213))) (fun _ hk => hk.2) (.string t208)) (fun _ hk => hk.2) (.int .i64 t209)) (fun _ hk => hk.2) (.int .i64 t210)) (fun _ hk => hk.2) (.int .i64 t211)) (fun _ hk => trivial)⟩, ⟨by (with_reducible repeat (first | apply Kd.R_alloc | apply Kd.R_drewN | apply Kd.R_drew)); exact Kd.R_mono (Kd.R_far (p := ⟨gb213, 3, none⟩) (Kd.R_far (p := ⟨gb213, 2, none⟩) (Kd.R_far (p := ⟨gb213, 1, none⟩) (Kd.R_far (p := ⟨gb213, 0, none⟩) (Kd.R_types HO_193001.out BK213.out (by decide)) (fun _ hk => hk.2) (.string t208)) (fun _ hk => hk.2) (.int .i64 t209)) (fun _ hk => hk.2) (.int .i64 t210)) (fun _ hk => hk.2) (.int .i64 t211)) (fun _ hk => trivial)⟩, ⟨by (with_reducible repeat (first | refine blk_drewN ?_ _ | refine blk_drew ?_ | refine blk_alloc ?_ _)); refine blk_far ?_ NB191_213.out _; (with_reducible repeat (first | refine blk_drewN ?_ _ | refine blk_drew ?_ | refine blk_alloc ?_ _)); refine blk_far ?_ NB191_213.out _; (with_reducible repeat (first | refine blk_drewN ?_ _ | refine blk_drew ?_ | refine blk_alloc ?_ _)); refine blk_far ?_ NB191_213.out _; (with_reducible repeat (first | refine blk_drewN ?_ _ | refine blk_drew ?_ | refine blk_alloc ?_ _)); refine blk_far ?_ NB191_213.out _; (with_reducible repeat (first | refine blk_drewN ?_ _ | refine blk_drew ?_ | refine blk_alloc ?_ _)); exact BK191.out⟩, ⟨by (with_reducible repeat (first | refine blk_drewN ?_ _ | refine blk_drew ?_ | refine blk_alloc ?_ _)); refine blk_far ?_ NB192_213.out _; (with_reducible repeat (first | refine blk_drewN ?_ _ | refine blk_drew ?_ | refine blk_alloc ?_ _)); refine blk_far ?_ NB192_213.out _; (with_reducible repeat (first | refine blk_drewN ?_ _ | refine blk_drew ?_ | refine blk_alloc ?_ _)); refine blk_far ?_ NB192_213.out _; (with_reducible repeat (first | refine blk_drewN ?_ _ | refine blk_drew ?_ | refine blk_alloc ?_ _)); refine blk_far ?_ NB192_213.out _; (with_reducible repeat (first | refine blk_drewN ?_ _ | refine blk_drew ?_ | refine blk_alloc ?_ _)); exact BK192.out⟩, ⟨(fB3 GE191 GE192 GE213)⟩⟩
            ·replace c20 := Bool.eq_false_iff.mpr c20
             subst c20
             rw [if_neg (show ¬ (false = true) by decide)] at H
             have H' := Aside0.mk H
             clear H
             have p201 : 0 ≤ (2 : Int) := (by omega)
             have q201 : 2 < (((rd_T48 t193 x5_1).f1).length : Int) := of_decide_eq_true (by first | (with_reducible assumption) | assumption)
             obtain ⟨ad201, e201, hx201_0⟩ := Kd.at_string (by repeat (first | (with_reducible exact HR199_1.out) | (with_reducible refine Kd.C_alloc ?_ _) | (with_reducible refine Kd.C_drewN ?_ _) | (with_reducible refine Kd.C_drew ?_) | exact HR199_1.out)) 2 p201 q201
             cases e201
             (try simp only [show (2 : Int).toNat = 2 from rfl, Nat.reduceMul, Nat.reduceEqDiff, Go.Addr.add, ↓reduceIte] at hx201_0)
             have qi201 : (2 < ((rd_T48 t193 x5_1).f1).length) = True := eq_true (by omega)
             (try rw [show ((2 : Int)).toNat = 2 from rfl] at hx201_0)
             replace p201 := eq_true p201
             replace q201 := eq_true q201
             go_wp2_with (first | ((with_reducible refine gate_callee (f := 22) rfl ?_); refine goesL_ (some 42) rfl rfl Try.func22 (by kernel_rfl) rfl #[.string (rdOf ByteArray.empty ((rd_T48 t193 x5_1).f1) 2), .int .i64 1000] rfl s2_ ?_; (with_reducible refine (conciergeref2_Num.calls kj7 (rdOf ByteArray.empty ((rd_T48 t193 x5_1).f1) 2) 1000 t202 true _ A14.out).mono ?_); rintro e w' ⟨rfl, ⟨nd, rfl⟩⟩; refine ⟨_, rfl, ?_⟩; (try (rw [drewN_self wc]; generalize hq_ : World.drewN wc _ = wc; have n0_ : Aside0 (Kd.R k52 52 wc w.heap.size (fun _ => True) u193000 x193000_1) := ⟨by rw [← hq_]; exact (fA0 HO_193000)⟩; have n1_ : Aside0 (Kd.R Kd.string 9 wc w.heap.size (fun _ => True) u193001 x193001_1) := ⟨by rw [← hq_]; exact (fA0 HO_193001)⟩; have n2_ : Aside0 (Kd.S k48 48 wc w.heap.size (fun k_ => some k_ ≠ (u193001 : Value).ownBlock) (.slice (some ad199) t193.length co9) t193) := ⟨by rw [← hq_]; exact (fA2 HO_4)⟩; have n3_ : Aside0 (wc.heap[gb191]? = some (.cells #[.slice none 0 0, .slice none 0 0] 28 (0, 0))) := ⟨by rw [← hq_]; exact (fA1 BK191)⟩; have n4_ : Aside0 (wc.heap[gb192]? = some (.cells #[u193000, u193001] 28 (0, 0))) := ⟨by rw [← hq_]; exact (fA1 BK192)⟩; have n5_ : Aside0 (Below w.heap.size w wc) := ⟨by rw [← hq_]; exact (fB2 GE191 GE192)⟩; have n6_ : Aside0 (Kd.C Kd.string wc (some ad201) ((rd_T48 t193 x5_1).f1).length ((rd_T48 t193 x5_1).f1)) := ⟨by rw [← hq_]; exact (by repeat (first | (with_reducible exact HR199_1.out) | (with_reducible refine Kd.C_alloc ?_ _) | (with_reducible refine Kd.C_drewN ?_ _) | (with_reducible refine Kd.C_drew ?_) | exact HR199_1.out))⟩; clear HO_193000 HO_193001 HO_4 BK191 BK192 HB HR199_1 hq_; have HO_193000 := n0_; have HO_193001 := n1_; have HO_4 := n2_; have BK191 := n3_; have BK192 := n4_; have HB := n5_; have HR199_1 := n6_; clear n0_ n1_ n2_ n3_ n4_ n5_ n6_)); have p204 : 0 ≤ (3 : Int) := (by omega); have q204 : 3 < (((rd_T48 t193 x5_1).f1).length : Int) := of_decide_eq_true (by first | (with_reducible assumption) | assumption); obtain ⟨ad204, e204, hx204_0⟩ := Kd.at_string (by repeat (first | (with_reducible exact HR199_1.out) | (with_reducible refine Kd.C_alloc ?_ _) | (with_reducible refine Kd.C_drewN ?_ _) | (with_reducible refine Kd.C_drew ?_) | exact HR199_1.out)) 3 p204 q204; obtain rfl : ad201 = ad204 := (by injection e204); (try simp only [show (3 : Int).toNat = 3 from rfl, Nat.reduceMul, Nat.reduceEqDiff, Go.Addr.add, ↓reduceIte] at hx204_0); have qi204 : (3 < ((rd_T48 t193 x5_1).f1).length) = True := eq_true (by omega); (try rw [show ((3 : Int)).toNat = 3 from rfl] at hx204_0); replace p204 := eq_true p204; replace q204 := eq_true q204) | ((with_reducible refine gate_callee (f := 22) rfl ?_); refine goesL_ (some 49) rfl rfl Try.func22 (by kernel_rfl) rfl #[.string (rdOf ByteArray.empty ((rd_T48 t193 x5_1).f1) 3), .int .i64 1000] rfl s2_ ?_; (with_reducible refine (conciergeref2_Num.calls kj7 (rdOf ByteArray.empty ((rd_T48 t193 x5_1).f1) 3) 1000 t205 false _ A16.out).mono ?_); rintro e w' ⟨rfl, ⟨nd, rfl⟩⟩; refine ⟨_, rfl, ?_⟩; (try (rw [drewN_self wc]; generalize hq_ : World.drewN wc _ = wc; have n0_ : Aside0 (Kd.R k52 52 wc w.heap.size (fun _ => True) u193000 x193000_1) := ⟨by rw [← hq_]; exact (fA0 HO_193000)⟩; have n1_ : Aside0 (Kd.R Kd.string 9 wc w.heap.size (fun _ => True) u193001 x193001_1) := ⟨by rw [← hq_]; exact (fA0 HO_193001)⟩; have n2_ : Aside0 (Kd.S k48 48 wc w.heap.size (fun k_ => some k_ ≠ (u193001 : Value).ownBlock) (.slice (some ad199) t193.length co9) t193) := ⟨by rw [← hq_]; exact (fA2 HO_4)⟩; have n3_ : Aside0 (wc.heap[gb191]? = some (.cells #[.slice none 0 0, .slice none 0 0] 28 (0, 0))) := ⟨by rw [← hq_]; exact (fA1 BK191)⟩; have n4_ : Aside0 (wc.heap[gb192]? = some (.cells #[u193000, u193001] 28 (0, 0))) := ⟨by rw [← hq_]; exact (fA1 BK192)⟩; have n5_ : Aside0 (Below w.heap.size w wc) := ⟨by rw [← hq_]; exact (fB2 GE191 GE192)⟩; have n6_ : Aside0 (Kd.C Kd.string wc (some ad201) ((rd_T48 t193 x5_1).f1).length ((rd_T48 t193 x5_1).f1)) := ⟨by rw [← hq_]; exact (by repeat (first | (with_reducible exact HR199_1.out) | (with_reducible refine Kd.C_alloc ?_ _) | (with_reducible refine Kd.C_drewN ?_ _) | (with_reducible refine Kd.C_drew ?_) | exact HR199_1.out))⟩; clear HO_193000 HO_193001 HO_4 BK191 BK192 HB HR199_1 hq_; have HO_193000 := n0_; have HO_193001 := n1_; have HO_4 := n2_; have BK191 := n3_; have BK192 := n4_; have HB := n5_; have HR199_1 := n6_; clear n0_ n1_ n2_ n3_ n4_ n5_ n6_)); have p207 : 0 ≤ (1 : Int) := (by omega); have q207 : 1 < (((rd_T48 t193 x5_1).f1).length : Int) := of_decide_eq_true (by first | (with_reducible assumption) | assumption); obtain ⟨ad207, e207, hx207_0⟩ := Kd.at_string (by repeat (first | (with_reducible exact HR199_1.out) | (with_reducible refine Kd.C_alloc ?_ _) | (with_reducible refine Kd.C_drewN ?_ _) | (with_reducible refine Kd.C_drew ?_) | exact HR199_1.out)) 1 p207 q207; obtain rfl : ad201 = ad207 := (by injection e207); (try simp only [show (1 : Int).toNat = 1 from rfl, Nat.reduceMul, Nat.reduceEqDiff, Go.Addr.add, ↓reduceIte] at hx207_0); have qi207 : (1 < ((rd_T48 t193 x5_1).f1).length) = True := eq_true (by omega); (try rw [show ((1 : Int)).toNat = 1 from rfl] at hx207_0); replace p207 := eq_true p207; replace q207 := eq_true q207) | ((with_reducible refine gate_callee (f := 23) rfl ?_); refine goesL_ (some 58) rfl rfl Try.func23 (by kernel_rfl) rfl #[.string (rdOf ByteArray.empty ((rd_T48 t193 x5_1).f1) 1), .int .i64 t202, .int .i64 t205] rfl s2_ ?_; (with_reducible refine (conciergeref15_row.calls kj7 (rdOf ByteArray.empty ((rd_T48 t193 x5_1).f1) 1) t202 t205 t208 t209 t210 t211 t212 _ A18.out).mono ?_); rintro e w48 ⟨rfl, hb⟩; refine ⟨_, rfl, ?_⟩; have n0_ := Aside0.mk (Kd.S_below (fA2 HO_4) hb); have n1_ := Aside0.mk (Kd.R_below (fA0 HO_193000) hb); have n2_ := Aside0.mk (Kd.R_below (fA0 HO_193001) hb); have n3_ := Aside0.mk (blk_below (g := gb191) (o := .cells #[.slice none 0 0, .slice none 0 0] 28 (0, 0)) (fA1 BK191) hb); have n4_ := Aside0.mk (blk_below (g := gb192) (o := .cells #[u193000, u193001] 28 (0, 0)) (fA1 BK192) hb); have n5_ := Aside0.mk (Kd.C_below (by repeat (first | (with_reducible exact HR199_1.out) | (with_reducible refine Kd.C_alloc ?_ _) | (with_reducible refine Kd.C_drewN ?_ _) | (with_reducible refine Kd.C_drew ?_) | exact HR199_1.out)) hb); have n6_ := Aside0.mk (below_step (fB2 GE191 GE192) hb); clear HO_4; clear HO_193000; clear HO_193001; clear BK191; clear BK192; clear HR199_1; clear HB; have HO_4 := n0_; have HO_193000 := n1_; have HO_193001 := n2_; have BK191 := n3_; have BK192 := n4_; have HR199_1 := n5_; have HB := n6_; clear n0_ n1_ n2_ n3_ n4_ n5_ n6_; (try clear hb); (try clear hb2); (try clear hk); (try clear hi)) | ((with_reducible refine gate_dst (N := 11) rfl ?_); (try (refine gate_guard (by rfl) ?_; dsimp only)); refine box_event ?hg (N := 11) ?hd (cs := #[.string (⟨#[]⟩ : ByteArray), .int .i64 0, .int .i64 0, .int .i64 0]) (t := 52) ?hr ?_; (case hd => rfl); (case hg => rfl); (case hr => first | (go_simp; done) | (go_simp; rfl)); intro gb213 hg w49 hbox hb; have n0_ := Aside0.mk (Kd.S_below (fA2 HO_4) hb); have n1_ := Aside0.mk (Kd.R_below (Kd.R_elderB (fA0 HO_193000) gb213 (Nat.le_of_eq hg.symm)) hb); have n2_ := Aside0.mk (Kd.R_below (fA0 HO_193001) hb); have n3_ := Aside0.mk (blk_below (g := gb191) (o := .cells #[.slice none 0 0, .slice none 0 0] 28 (0, 0)) (fA1 BK191) hb); have n4_ := Aside0.mk (blk_below (g := gb192) (o := .cells #[u193000, u193001] 28 (0, 0)) (fA1 BK192) hb); have n5_ := Aside0.mk (Kd.C_below (by repeat (first | (with_reducible exact HR199_1.out) | (with_reducible refine Kd.C_alloc ?_ _) | (with_reducible refine Kd.C_drewN ?_ _) | (with_reducible refine Kd.C_drew ?_) | exact HR199_1.out)) hb); have n6_ := Aside0.mk (below_step (fB2 GE191 GE192) hb); have n7_ := Aside0.mk (hbox); have n8_ := Aside0.mk ((by rw [hg]; exact (below_size (fB2 GE191 GE192)) : w.heap.size ≤ gb213)); have n9_ := Aside0.mk ((by rw [hg]; exact (below_size (fB2 GE191 GE192)) : w.heap.size ≤ gb213)); have n10_ := Aside0.mk ((by rw [hg]; exact Nat.ne_of_lt (blk_lt (g := gb191) (o := .cells #[.slice none 0 0, .slice none 0 0] 28 (0, 0)) (fA1 BK191)) : gb191 ≠ gb213)); have n11_ := Aside0.mk ((by rw [hg]; exact Nat.ne_of_gt (blk_lt (g := gb191) (o := .cells #[.slice none 0 0, .slice none 0 0] 28 (0, 0)) (fA1 BK191)) : gb213 ≠ gb191)); have n12_ := Aside0.mk ((by rw [hg]; exact Nat.ne_of_lt (blk_lt (g := gb192) (o := .cells #[u193000, u193001] 28 (0, 0)) (fA1 BK192)) : gb192 ≠ gb213)); have n13_ := Aside0.mk ((by rw [hg]; exact Nat.ne_of_gt (blk_lt (g := gb192) (o := .cells #[u193000, u193001] 28 (0, 0)) (fA1 BK192)) : gb213 ≠ gb192)); clear HO_4; clear HO_193000; clear HO_193001; clear BK191; clear BK192; clear HR199_1; clear HB; have HO_4 := n0_; have HO_193000 := n1_; have HO_193001 := n2_; have BK191 := n3_; have BK192 := n4_; have HR199_1 := n5_; have HB := n6_; have BK213 := n7_; have GW213 := n8_; have GE213 := n9_; have NB191_213 := n10_; have NB213_191 := n11_; have NB192_213 := n12_; have NB213_192 := n13_; clear n0_ n1_ n2_ n3_ n4_ n5_ n6_ n7_ n8_ n9_ n10_ n11_ n12_ n13_; clear hb hbox hg; have hnb50 := NB213_191.out; have hnc50 := NB191_213.out; have hnb51 := NB213_192.out; have hnc51 := NB192_213.out; have hcz52_0 : w49.cell? ⟨gb213, 0, none⟩ = some (.string (⟨#[]⟩ : ByteArray)) := (blk_cell BK213.out 0).trans rfl; have hcz52_1 : w49.cell? ⟨gb213, 1, none⟩ = some (.int .i64 0) := (blk_cell BK213.out 1).trans rfl; have hcz52_2 : w49.cell? ⟨gb213, 2, none⟩ = some (.int .i64 0) := (blk_cell BK213.out 2).trans rfl; have hcz52_3 : w49.cell? ⟨gb213, 3, none⟩ = some (.int .i64 0) := (blk_cell BK213.out 3).trans rfl; have hfz52_0 := blk_frozen BK213.out 0; have hfz52_1 := blk_frozen BK213.out 1; have hfz52_2 := blk_frozen BK213.out 2; have hfz52_3 := blk_frozen BK213.out 3))
             go_roundg kj7
             case measure => have := HK1.out; have := HJ7.out; omega
             case rel => exact ⟨(wrap64 (x5_1 + 1)), (x193000_1), (x193001_1), (u193000), (u193001), s1_, H', ⟨by have := HK1.out; have := HJ7.out; omega⟩, ⟨by (with_reducible repeat (first | apply Kd.S_alloc | apply Kd.S_drewN | apply Kd.S_drew)); exact Kd.S_mono (Kd.S_far (p := ⟨gb213, 3, none⟩) (Kd.S_far (p := ⟨gb213, 2, none⟩) (Kd.S_far (p := ⟨gb213, 1, none⟩) (Kd.S_far (p := ⟨gb213, 0, none⟩) (Kd.S_types HO_4.out BK213.out (by decide)) (fun _ hk => hk.2) (.string t208)) (fun _ hk => hk.2) (.int .i64 t209)) (fun _ hk => hk.2) (.int .i64 t210)) (fun _ hk => hk.2) (.int .i64 t211)) (fun _ hk => hk.1)⟩, ⟨by (with_reducible repeat (first | apply Kd.R_alloc | apply Kd.R_drewN | apply Kd.R_drew)); exact Kd.R_mono (Kd.R_far (p := ⟨gb213, 3, none⟩) (Kd.R_far (p := ⟨gb213, 2, none⟩) (Kd.R_far (p := ⟨gb213, 1, none⟩) (Kd.R_far (p := ⟨gb213, 0, none⟩) (Kd.R_mono HO_193000.out (fun k_ hk => (⟨hk, hk.2⟩ : _ ∧ k_ ≠ gb213))) (fun _ hk => hk.2) (.string t208)) (fun _ hk => hk.2) (.int .i64 t209)) (fun _ hk => hk.2) (.int .i64 t210)) (fun _ hk => hk.2) (.int .i64 t211)) (fun _ hk => trivial)⟩, ⟨by (with_reducible repeat (first | apply Kd.R_alloc | apply Kd.R_drewN | apply Kd.R_drew)); exact Kd.R_mono (Kd.R_far (p := ⟨gb213, 3, none⟩) (Kd.R_far (p := ⟨gb213, 2, none⟩) (Kd.R_far (p := ⟨gb213, 1, none⟩) (Kd.R_far (p := ⟨gb213, 0, none⟩) (Kd.R_types HO_193001.out BK213.out (by decide)) (fun _ hk => hk.2) (.string t208)) (fun _ hk => hk.2) (.int .i64 t209)) (fun _ hk => hk.2) (.int .i64 t210)) (fun _ hk => hk.2) (.int .i64 t211)) (fun _ hk => trivial)⟩, ⟨by (with_reducible repeat (first | refine blk_drewN ?_ _ | refine blk_drew ?_ | refine blk_alloc ?_ _)); refine blk_far ?_ NB191_213.out _; (with_reducible repeat (first | refine blk_drewN ?_ _ | refine blk_drew ?_ | refine blk_alloc ?_ _)); refine blk_far ?_ NB191_213.out _; (with_reducible repeat (first | refine blk_drewN ?_ _ | refine blk_drew ?_ | refine blk_alloc ?_ _)); refine blk_far ?_ NB191_213.out _; (with_reducible repeat (first | refine blk_drewN ?_ _ | refine blk_drew ?_ | refine blk_alloc ?_ _)); refine blk_far ?_ NB191_213.out _; (with_reducible repeat (first | refine blk_drewN ?_ _ | refine blk_drew ?_ | refine blk_alloc ?_ _)); exact BK191.out⟩, ⟨by (with_reducible repeat (first | refine blk_drewN ?_ _ | refine blk_drew ?_ | refine blk_alloc ?_ _)); refine blk_far ?_ NB192_213.out _; (with_reducible repeat (first | refine blk_drewN ?_ _ | refine blk_drew ?_ | refine blk_alloc ?_ _)); refine blk_far ?_ NB192_213.out _; (with_reducible repeat (first | refine blk_drewN ?_ _ | refine blk_drew ?_ | refine blk_alloc ?_ _)); refine blk_far ?_ NB192_213.out _; (with_reducible repeat (first | refine blk_drewN ?_ _ | refine blk_drew ?_ | refine blk_alloc ?_ _)); refine blk_far ?_ NB192_213.out _; (with_reducible repeat (first | refine blk_drewN ?_ _ | refine blk_drew ?_ | refine blk_alloc ?_ _)); exact BK192.out⟩, ⟨(fB3 GE191 GE192 GE213)⟩⟩
           ·replace c19 := Bool.eq_false_iff.mpr c19
            subst c19
            rw [if_neg (show ¬ (false = true) by decide)] at H
            have H' := Aside0.mk H
            clear H
            have p201 : 0 ≤ (2 : Int) := (by omega)
            have q201 : 2 < (((rd_T48 t193 x5_1).f1).length : Int) := of_decide_eq_true (by first | (with_reducible assumption) | assumption)
            obtain ⟨ad201, e201, hx201_0⟩ := Kd.at_string (by repeat (first | (with_reducible exact HR199_1.out) | (with_reducible refine Kd.C_alloc ?_ _) | (with_reducible refine Kd.C_drewN ?_ _) | (with_reducible refine Kd.C_drew ?_) | exact HR199_1.out)) 2 p201 q201
            cases e201
            (try simp only [show (2 : Int).toNat = 2 from rfl, Nat.reduceMul, Nat.reduceEqDiff, Go.Addr.add, ↓reduceIte] at hx201_0)
            have qi201 : (2 < ((rd_T48 t193 x5_1).f1).length) = True := eq_true (by omega)
            (try rw [show ((2 : Int)).toNat = 2 from rfl] at hx201_0)
            replace p201 := eq_true p201
            replace q201 := eq_true q201
            go_wp2_with (first | ((with_reducible refine gate_callee (f := 22) rfl ?_); refine goesL_ (some 42) rfl rfl Try.func22 (by kernel_rfl) rfl #[.string (rdOf ByteArray.empty ((rd_T48 t193 x5_1).f1) 2), .int .i64 1000] rfl s2_ ?_; (with_reducible refine (conciergeref2_Num.calls kj7 (rdOf ByteArray.empty ((rd_T48 t193 x5_1).f1) 2) 1000 t202 false _ A14.out).mono ?_); rintro e w' ⟨rfl, ⟨nd, rfl⟩⟩; refine ⟨_, rfl, ?_⟩; (try (rw [drewN_self wc]; generalize hq_ : World.drewN wc _ = wc; have n0_ : Aside0 (Kd.R k52 52 wc w.heap.size (fun _ => True) u193000 x193000_1) := ⟨by rw [← hq_]; exact (fA0 HO_193000)⟩; have n1_ : Aside0 (Kd.R Kd.string 9 wc w.heap.size (fun _ => True) u193001 x193001_1) := ⟨by rw [← hq_]; exact (fA0 HO_193001)⟩; have n2_ : Aside0 (Kd.S k48 48 wc w.heap.size (fun k_ => some k_ ≠ (u193001 : Value).ownBlock) (.slice (some ad199) t193.length co9) t193) := ⟨by rw [← hq_]; exact (fA2 HO_4)⟩; have n3_ : Aside0 (wc.heap[gb191]? = some (.cells #[.slice none 0 0, .slice none 0 0] 28 (0, 0))) := ⟨by rw [← hq_]; exact (fA1 BK191)⟩; have n4_ : Aside0 (wc.heap[gb192]? = some (.cells #[u193000, u193001] 28 (0, 0))) := ⟨by rw [← hq_]; exact (fA1 BK192)⟩; have n5_ : Aside0 (Below w.heap.size w wc) := ⟨by rw [← hq_]; exact (fB2 GE191 GE192)⟩; have n6_ : Aside0 (Kd.C Kd.string wc (some ad201) ((rd_T48 t193 x5_1).f1).length ((rd_T48 t193 x5_1).f1)) := ⟨by rw [← hq_]; exact (by repeat (first | (with_reducible exact HR199_1.out) | (with_reducible refine Kd.C_alloc ?_ _) | (with_reducible refine Kd.C_drewN ?_ _) | (with_reducible refine Kd.C_drew ?_) | exact HR199_1.out))⟩; clear HO_193000 HO_193001 HO_4 BK191 BK192 HB HR199_1 hq_; have HO_193000 := n0_; have HO_193001 := n1_; have HO_4 := n2_; have BK191 := n3_; have BK192 := n4_; have HB := n5_; have HR199_1 := n6_; clear n0_ n1_ n2_ n3_ n4_ n5_ n6_)); have p204 : 0 ≤ (3 : Int) := (by omega); have q204 : 3 < (((rd_T48 t193 x5_1).f1).length : Int) := of_decide_eq_true (by first | (with_reducible assumption) | assumption); obtain ⟨ad204, e204, hx204_0⟩ := Kd.at_string (by repeat (first | (with_reducible exact HR199_1.out) | (with_reducible refine Kd.C_alloc ?_ _) | (with_reducible refine Kd.C_drewN ?_ _) | (with_reducible refine Kd.C_drew ?_) | exact HR199_1.out)) 3 p204 q204; obtain rfl : ad201 = ad204 := (by injection e204); (try simp only [show (3 : Int).toNat = 3 from rfl, Nat.reduceMul, Nat.reduceEqDiff, Go.Addr.add, ↓reduceIte] at hx204_0); have qi204 : (3 < ((rd_T48 t193 x5_1).f1).length) = True := eq_true (by omega); (try rw [show ((3 : Int)).toNat = 3 from rfl] at hx204_0); replace p204 := eq_true p204; replace q204 := eq_true q204) | ((with_reducible refine gate_callee (f := 22) rfl ?_); refine goesL_ (some 49) rfl rfl Try.func22 (by kernel_rfl) rfl #[.string (rdOf ByteArray.empty ((rd_T48 t193 x5_1).f1) 3), .int .i64 1000] rfl s2_ ?_; (with_reducible refine (conciergeref2_Num.calls kj7 (rdOf ByteArray.empty ((rd_T48 t193 x5_1).f1) 3) 1000 t205 t206 _ A16.out).mono ?_); rintro e w' ⟨rfl, ⟨nd, rfl⟩⟩; refine ⟨_, rfl, ?_⟩; (try (rw [drewN_self wc]; generalize hq_ : World.drewN wc _ = wc; have n0_ : Aside0 (Kd.R k52 52 wc w.heap.size (fun _ => True) u193000 x193000_1) := ⟨by rw [← hq_]; exact (fA0 HO_193000)⟩; have n1_ : Aside0 (Kd.R Kd.string 9 wc w.heap.size (fun _ => True) u193001 x193001_1) := ⟨by rw [← hq_]; exact (fA0 HO_193001)⟩; have n2_ : Aside0 (Kd.S k48 48 wc w.heap.size (fun k_ => some k_ ≠ (u193001 : Value).ownBlock) (.slice (some ad199) t193.length co9) t193) := ⟨by rw [← hq_]; exact (fA2 HO_4)⟩; have n3_ : Aside0 (wc.heap[gb191]? = some (.cells #[.slice none 0 0, .slice none 0 0] 28 (0, 0))) := ⟨by rw [← hq_]; exact (fA1 BK191)⟩; have n4_ : Aside0 (wc.heap[gb192]? = some (.cells #[u193000, u193001] 28 (0, 0))) := ⟨by rw [← hq_]; exact (fA1 BK192)⟩; have n5_ : Aside0 (Below w.heap.size w wc) := ⟨by rw [← hq_]; exact (fB2 GE191 GE192)⟩; have n6_ : Aside0 (Kd.C Kd.string wc (some ad201) ((rd_T48 t193 x5_1).f1).length ((rd_T48 t193 x5_1).f1)) := ⟨by rw [← hq_]; exact (by repeat (first | (with_reducible exact HR199_1.out) | (with_reducible refine Kd.C_alloc ?_ _) | (with_reducible refine Kd.C_drewN ?_ _) | (with_reducible refine Kd.C_drew ?_) | exact HR199_1.out))⟩; clear HO_193000 HO_193001 HO_4 BK191 BK192 HB HR199_1 hq_; have HO_193000 := n0_; have HO_193001 := n1_; have HO_4 := n2_; have BK191 := n3_; have BK192 := n4_; have HB := n5_; have HR199_1 := n6_; clear n0_ n1_ n2_ n3_ n4_ n5_ n6_)); have p207 : 0 ≤ (1 : Int) := (by omega); have q207 : 1 < (((rd_T48 t193 x5_1).f1).length : Int) := of_decide_eq_true (by first | (with_reducible assumption) | assumption); obtain ⟨ad207, e207, hx207_0⟩ := Kd.at_string (by repeat (first | (with_reducible exact HR199_1.out) | (with_reducible refine Kd.C_alloc ?_ _) | (with_reducible refine Kd.C_drewN ?_ _) | (with_reducible refine Kd.C_drew ?_) | exact HR199_1.out)) 1 p207 q207; obtain rfl : ad201 = ad207 := (by injection e207); (try simp only [show (1 : Int).toNat = 1 from rfl, Nat.reduceMul, Nat.reduceEqDiff, Go.Addr.add, ↓reduceIte] at hx207_0); have qi207 : (1 < ((rd_T48 t193 x5_1).f1).length) = True := eq_true (by omega); (try rw [show ((1 : Int)).toNat = 1 from rfl] at hx207_0); replace p207 := eq_true p207; replace q207 := eq_true q207) | ((with_reducible refine gate_callee (f := 23) rfl ?_); refine goesL_ (some 58) rfl rfl Try.func23 (by kernel_rfl) rfl #[.string (rdOf ByteArray.empty ((rd_T48 t193 x5_1).f1) 1), .int .i64 t202, .int .i64 t205] rfl s2_ ?_; (with_reducible refine (conciergeref15_row.calls kj7 (rdOf ByteArray.empty ((rd_T48 t193 x5_1).f1) 1) t202 t205 t208 t209 t210 t211 t212 _ A18.out).mono ?_); rintro e w53 ⟨rfl, hb⟩; refine ⟨_, rfl, ?_⟩; have n0_ := Aside0.mk (Kd.S_below (fA2 HO_4) hb); have n1_ := Aside0.mk (Kd.R_below (fA0 HO_193000) hb); have n2_ := Aside0.mk (Kd.R_below (fA0 HO_193001) hb); have n3_ := Aside0.mk (blk_below (g := gb191) (o := .cells #[.slice none 0 0, .slice none 0 0] 28 (0, 0)) (fA1 BK191) hb); have n4_ := Aside0.mk (blk_below (g := gb192) (o := .cells #[u193000, u193001] 28 (0, 0)) (fA1 BK192) hb); have n5_ := Aside0.mk (Kd.C_below (by repeat (first | (with_reducible exact HR199_1.out) | (with_reducible refine Kd.C_alloc ?_ _) | (with_reducible refine Kd.C_drewN ?_ _) | (with_reducible refine Kd.C_drew ?_) | exact HR199_1.out)) hb); have n6_ := Aside0.mk (below_step (fB2 GE191 GE192) hb); clear HO_4; clear HO_193000; clear HO_193001; clear BK191; clear BK192; clear HR199_1; clear HB; have HO_4 := n0_; have HO_193000 := n1_; have HO_193001 := n2_; have BK191 := n3_; have BK192 := n4_; have HR199_1 := n5_; have HB := n6_; clear n0_ n1_ n2_ n3_ n4_ n5_ n6_; (try clear hb); (try clear hb2); (try clear hk); (try clear hi)) | ((with_reducible refine gate_dst (N := 11) rfl ?_); (try (refine gate_guard (by rfl) ?_; dsimp only)); refine box_event ?hg (N := 11) ?hd (cs := #[.string (⟨#[]⟩ : ByteArray), .int .i64 0, .int .i64 0, .int .i64 0]) (t := 52) ?hr ?_; (case hd => rfl); (case hg => rfl); (case hr => first | (go_simp; done) | (go_simp; rfl)); intro gb213 hg w54 hbox hb; have n0_ := Aside0.mk (Kd.S_below (fA2 HO_4) hb); have n1_ := Aside0.mk (Kd.R_below (Kd.R_elderB (fA0 HO_193000) gb213 (Nat.le_of_eq hg.symm)) hb); have n2_ := Aside0.mk (Kd.R_below (fA0 HO_193001) hb); have n3_ := Aside0.mk (blk_below (g := gb191) (o := .cells #[.slice none 0 0, .slice none 0 0] 28 (0, 0)) (fA1 BK191) hb); have n4_ := Aside0.mk (blk_below (g := gb192) (o := .cells #[u193000, u193001] 28 (0, 0)) (fA1 BK192) hb); have n5_ := Aside0.mk (Kd.C_below (by repeat (first | (with_reducible exact HR199_1.out) | (with_reducible refine Kd.C_alloc ?_ _) | (with_reducible refine Kd.C_drewN ?_ _) | (with_reducible refine Kd.C_drew ?_) | exact HR199_1.out)) hb); have n6_ := Aside0.mk (below_step (fB2 GE191 GE192) hb); have n7_ := Aside0.mk (hbox); have n8_ := Aside0.mk ((by rw [hg]; exact (below_size (fB2 GE191 GE192)) : w.heap.size ≤ gb213)); have n9_ := Aside0.mk ((by rw [hg]; exact (below_size (fB2 GE191 GE192)) : w.heap.size ≤ gb213)); have n10_ := Aside0.mk ((by rw [hg]; exact Nat.ne_of_lt (blk_lt (g := gb191) (o := .cells #[.slice none 0 0, .slice none 0 0] 28 (0, 0)) (fA1 BK191)) : gb191 ≠ gb213)); have n11_ := Aside0.mk ((by rw [hg]; exact Nat.ne_of_gt (blk_lt (g := gb191) (o := .cells #[.slice none 0 0, .slice none 0 0] 28 (0, 0)) (fA1 BK191)) : gb213 ≠ gb191)); have n12_ := Aside0.mk ((by rw [hg]; exact Nat.ne_of_lt (blk_lt (g := gb192) (o := .cells #[u193000, u193001] 28 (0, 0)) (fA1 BK192)) : gb192 ≠ gb213)); have n13_ := Aside0.mk ((by rw [hg]; exact Nat.ne_of_gt (blk_lt (g := gb192) (o := .cells #[u193000, u193001] 28 (0, 0)) (fA1 BK192)) : gb213 ≠ gb192)); clear HO_4; clear HO_193000; clear HO_193001; clear BK191; clear BK192; clear HR199_1; clear HB; have HO_4 := n0_; have HO_193000 := n1_; have HO_193001 := n2_; have BK191 := n3_; have BK192 := n4_; have HR199_1 := n5_; have HB := n6_; have BK213 := n7_; have GW213 := n8_; have GE213 := n9_; have NB191_213 := n10_; have NB213_191 := n11_; have NB192_213 := n12_; have NB213_192 := n13_; clear n0_ n1_ n2_ n3_ n4_ n5_ n6_ n7_ n8_ n9_ n10_ n11_ n12_ n13_; clear hb hbox hg; have hnb55 := NB213_191.out; have hnc55 := NB191_213.out; have hnb56 := NB213_192.out; have hnc56 := NB192_213.out; have hcz57_0 : w54.cell? ⟨gb213, 0, none⟩ = some (.string (⟨#[]⟩ : ByteArray)) := (blk_cell BK213.out 0).trans rfl; have hcz57_1 : w54.cell? ⟨gb213, 1, none⟩ = some (.int .i64 0) := (blk_cell BK213.out 1).trans rfl; have hcz57_2 : w54.cell? ⟨gb213, 2, none⟩ = some (.int .i64 0) := (blk_cell BK213.out 2).trans rfl; have hcz57_3 : w54.cell? ⟨gb213, 3, none⟩ = some (.int .i64 0) := (blk_cell BK213.out 3).trans rfl; have hfz57_0 := blk_frozen BK213.out 0; have hfz57_1 := blk_frozen BK213.out 1; have hfz57_2 := blk_frozen BK213.out 2; have hfz57_3 := blk_frozen BK213.out 3))
            go_roundg kj7
            case measure => have := HK1.out; have := HJ7.out; omega
            case rel => exact ⟨(wrap64 (x5_1 + 1)), (x193000_1), (x193001_1), (u193000), (u193001), s1_, H', ⟨by have := HK1.out; have := HJ7.out; omega⟩, ⟨by (with_reducible repeat (first | apply Kd.S_alloc | apply Kd.S_drewN | apply Kd.S_drew)); exact Kd.S_mono (Kd.S_far (p := ⟨gb213, 3, none⟩) (Kd.S_far (p := ⟨gb213, 2, none⟩) (Kd.S_far (p := ⟨gb213, 1, none⟩) (Kd.S_far (p := ⟨gb213, 0, none⟩) (Kd.S_types HO_4.out BK213.out (by decide)) (fun _ hk => hk.2) (.string t208)) (fun _ hk => hk.2) (.int .i64 t209)) (fun _ hk => hk.2) (.int .i64 t210)) (fun _ hk => hk.2) (.int .i64 t211)) (fun _ hk => hk.1)⟩, ⟨by (with_reducible repeat (first | apply Kd.R_alloc | apply Kd.R_drewN | apply Kd.R_drew)); exact Kd.R_mono (Kd.R_far (p := ⟨gb213, 3, none⟩) (Kd.R_far (p := ⟨gb213, 2, none⟩) (Kd.R_far (p := ⟨gb213, 1, none⟩) (Kd.R_far (p := ⟨gb213, 0, none⟩) (Kd.R_mono HO_193000.out (fun k_ hk => (⟨hk, hk.2⟩ : _ ∧ k_ ≠ gb213))) (fun _ hk => hk.2) (.string t208)) (fun _ hk => hk.2) (.int .i64 t209)) (fun _ hk => hk.2) (.int .i64 t210)) (fun _ hk => hk.2) (.int .i64 t211)) (fun _ hk => trivial)⟩, ⟨by (with_reducible repeat (first | apply Kd.R_alloc | apply Kd.R_drewN | apply Kd.R_drew)); exact Kd.R_mono (Kd.R_far (p := ⟨gb213, 3, none⟩) (Kd.R_far (p := ⟨gb213, 2, none⟩) (Kd.R_far (p := ⟨gb213, 1, none⟩) (Kd.R_far (p := ⟨gb213, 0, none⟩) (Kd.R_types HO_193001.out BK213.out (by decide)) (fun _ hk => hk.2) (.string t208)) (fun _ hk => hk.2) (.int .i64 t209)) (fun _ hk => hk.2) (.int .i64 t210)) (fun _ hk => hk.2) (.int .i64 t211)) (fun _ hk => trivial)⟩, ⟨by (with_reducible repeat (first | refine blk_drewN ?_ _ | refine blk_drew ?_ | refine blk_alloc ?_ _)); refine blk_far ?_ NB191_213.out _; (with_reducible repeat (first | refine blk_drewN ?_ _ | refine blk_drew ?_ | refine blk_alloc ?_ _)); refine blk_far ?_ NB191_213.out _; (with_reducible repeat (first | refine blk_drewN ?_ _ | refine blk_drew ?_ | refine blk_alloc ?_ _)); refine blk_far ?_ NB191_213.out _; (with_reducible repeat (first | refine blk_drewN ?_ _ | refine blk_drew ?_ | refine blk_alloc ?_ _)); refine blk_far ?_ NB191_213.out _; (with_reducible repeat (first | refine blk_drewN ?_ _ | refine blk_drew ?_ | refine blk_alloc ?_ _)); exact BK191.out⟩, ⟨by (with_reducible repeat (first | refine blk_drewN ?_ _ | refine blk_drew ?_ | refine blk_alloc ?_ _)); refine blk_far ?_ NB192_213.out _; (with_reducible repeat (first | refine blk_drewN ?_ _ | refine blk_drew ?_ | refine blk_alloc ?_ _)); refine blk_far ?_ NB192_213.out _; (with_reducible repeat (first | refine blk_drewN ?_ _ | refine blk_drew ?_ | refine blk_alloc ?_ _)); refine blk_far ?_ NB192_213.out _; (with_reducible repeat (first | refine blk_drewN ?_ _ | refine blk_drew ?_ | refine blk_alloc ?_ _)); refine blk_far ?_ NB192_213.out _; (with_reducible repeat (first | refine blk_drewN ?_ _ | refine blk_drew ?_ | refine blk_alloc ?_ _)); exact BK192.out⟩, ⟨(fB3 GE191 GE192 GE213)⟩⟩
          ·rw [if_neg c17] at H
           exact absurd H (by simp)
         ·rw [if_neg c15] at H
          exact absurd H (by simp)
        ·rw [if_neg c13] at H
         exact absurd H (by simp)
       ·replace c12 := Bool.eq_false_iff.mpr c12
        subst c12
        rw [if_neg (show ¬ (false = true) by decide)] at H
        have HC58 := Aside0.mk H
        clear H
        go_upto_region 13 with (fail)
        go_cut [80] (fun v80 wc => ∃ (kq : Nat) (x80_57 : Bool), v80 = .bool x80_57 ∧ Aside0 (conciergeref15_Select.j2 kq t193 x5_1 ((rd_T48 t193 x5_1).f1) x80_57 x193000_1 x193001_1 = some (r1, r2)) ∧ Aside0 (kq ≤ kj7) ∧ Aside0 (Kd.S k48 48 wc w.heap.size (fun k_ => some k_ ≠ (u193001 : Value).ownBlock) (.slice (some ad199) t193.length co9) t193) ∧ Aside0 (Kd.R k52 52 wc w.heap.size (fun _ => True) u193000 x193000_1) ∧ Aside0 (Kd.R Kd.string 9 wc w.heap.size (fun _ => True) u193001 x193001_1) ∧ Aside0 (wc.heap[gb191]? = some (.cells #[(.slice none 0 0), (.slice none 0 0)] 28 (0, 0))) ∧ Aside0 (wc.heap[gb192]? = some (.cells #[u193000, u193001] 28 (0, 0))) ∧ Aside0 (Kd.C Kd.string wc A199_1 ((rd_T48 t193 x5_1).f1).length ((rd_T48 t193 x5_1).f1)) ∧ Aside0 (Below w.heap.size w wc))
        case first =>
         have H := HC58.out
         clear HC58
         by_cases c59 : 0 < (((rd_T48 t193 x5_1).f1).length : Int)
         ·rw [if_pos c59] at H
          have c59b0 : decide (0 < (((rd_T48 t193 x5_1).f1).length : Int)) = true := decide_eq_true c59
          have c59b1 : decide (0 < ((rd_T48 t193 x5_1).f1).length) = true := decide_eq_true (by omega)
          clear c59
          (first | rw [c59b0] | (simp only [i64_w, i32_w]; rw [c59b0]) | skip)
          by_cases c60 : (rdOf ByteArray.empty ((rd_T48 t193 x5_1).f1) 0).toList = ([111, 119, 110] : List UInt8)
          ·rw [if_pos c60] at H
           have c60b0 : ((rdOf ByteArray.empty ((rd_T48 t193 x5_1).f1) 0).toList == ([111, 119, 110] : List UInt8)) = true := beq_iff_eq.mpr c60
           have c60b1 : ((rdOf ByteArray.empty ((rd_T48 t193 x5_1).f1) 0).toList != ([111, 119, 110] : List UInt8)) = false := bne_eq_false_iff_eq.mpr c60
           clear c60
           have H' := Aside0.mk H
           clear H
           have p217 : 0 ≤ (0 : Int) := (by omega)
           have q217 : 0 < (((rd_T48 t193 x5_1).f1).length : Int) := of_decide_eq_true (by first | (with_reducible assumption) | assumption)
           obtain ⟨ad217, e217, hx217_0⟩ := Kd.at_string (by repeat (first | (with_reducible exact HR199_1.out) | (with_reducible refine Kd.C_alloc ?_ _) | (with_reducible refine Kd.C_drewN ?_ _) | (with_reducible refine Kd.C_drew ?_) | exact HR199_1.out)) 0 p217 q217
           cases e217
           have qi217 : (0 < ((rd_T48 t193 x5_1).f1).length) = True := eq_true (by omega)
           (try rw [show ((0 : Int)).toNat = 0 from rfl] at hx217_0)
           (try rw [Addr.add_zero'] at hx217_0)
           replace p217 := eq_true p217
           replace q217 := eq_true q217
           go_wp2
           go_meet
           case rel => exact ⟨_, (((((rd_T48 t193 x5_1).f1).length : Int) == 2)), s1_, H', ⟨by have := HK1.out; have := HJ7.out; first | omega | exact Nat.le_refl _⟩, ⟨(fA2 HO_4)⟩, ⟨(fA0 HO_193000)⟩, ⟨(fA0 HO_193001)⟩, ⟨(fA1 BK191)⟩, ⟨(fA1 BK192)⟩, ⟨by repeat (first | (with_reducible exact HR199_1.out) | (with_reducible refine Kd.C_alloc ?_ _) | (with_reducible refine Kd.C_drewN ?_ _) | (with_reducible refine Kd.C_drew ?_) | exact HR199_1.out)⟩, ⟨(fB2 GE191 GE192)⟩⟩
          ·rw [if_neg c60] at H
           have c60b0 : ((rdOf ByteArray.empty ((rd_T48 t193 x5_1).f1) 0).toList == ([111, 119, 110] : List UInt8)) = false := beq_eq_false_iff_ne.mpr c60
           have c60b1 : ((rdOf ByteArray.empty ((rd_T48 t193 x5_1).f1) 0).toList != ([111, 119, 110] : List UInt8)) = true := bne_iff_ne.mpr c60
           have H' := Aside0.mk H
           clear H
           have p217 : 0 ≤ (0 : Int) := (by omega)
           have q217 : 0 < (((rd_T48 t193 x5_1).f1).length : Int) := of_decide_eq_true (by first | (with_reducible assumption) | assumption)
           obtain ⟨ad217, e217, hx217_0⟩ := Kd.at_string (by repeat (first | (with_reducible exact HR199_1.out) | (with_reducible refine Kd.C_alloc ?_ _) | (with_reducible refine Kd.C_drewN ?_ _) | (with_reducible refine Kd.C_drew ?_) | exact HR199_1.out)) 0 p217 q217
           cases e217
           have qi217 : (0 < ((rd_T48 t193 x5_1).f1).length) = True := eq_true (by omega)
           (try rw [show ((0 : Int)).toNat = 0 from rfl] at hx217_0)
           (try rw [Addr.add_zero'] at hx217_0)
           replace p217 := eq_true p217
           replace q217 := eq_true q217
           go_wp2
           go_meet
           case rel => exact ⟨_, (false), s1_, H', ⟨by have := HK1.out; have := HJ7.out; first | omega | exact Nat.le_refl _⟩, ⟨(fA2 HO_4)⟩, ⟨(fA0 HO_193000)⟩, ⟨(fA0 HO_193001)⟩, ⟨(fA1 BK191)⟩, ⟨(fA1 BK192)⟩, ⟨by repeat (first | (with_reducible exact HR199_1.out) | (with_reducible refine Kd.C_alloc ?_ _) | (with_reducible refine Kd.C_drewN ?_ _) | (with_reducible refine Kd.C_drew ?_) | exact HR199_1.out)⟩, ⟨(fB2 GE191 GE192)⟩⟩
         ·rw [if_neg c59] at H
          exact absurd H (by simp)
        case rest =>
         clear HC58
         try clear c1
         try clear p1
         try clear q1
         try clear hx1
         try clear c2
         try clear p2
         try clear q2
         try clear hx2
         try clear qi2
         try clear c3
         try clear c4
         try clear c5
         try clear c6
         try clear c6b0
         try clear p6
         try clear c7
         try clear c7b0
         try clear c8
         try clear c10
         try clear c10b0
         try clear c10b1
         try clear c11
         try clear c11b0
         try clear c11b1
         try clear c12
         try clear c13
         try clear c13b0
         try clear c13b1
         try clear c15
         try clear c15b0
         try clear c15b1
         try clear c17
         try clear c17b0
         try clear c17b1
         try clear c19
         try clear p19
         try clear q19
         try clear hx19
         try clear c20
         try clear p20
         try clear q20
         try clear hx20
         try clear qi20
         try clear c21
         try clear p21
         try clear q21
         try clear hx21
         try clear qi21
         try clear c22
         try clear c22b0
         try clear c22b1
         try clear c23
         try clear c26
         try clear c27
         try clear c29
         try clear c37
         try clear c38
         try clear c40
         try clear c45
         try clear c46
         try clear c50
         try clear c51
         try clear c55
         try clear c56
         try clear c59
         try clear c59b0
         try clear c59b1
         try clear c60
         try clear c60b0
         try clear c60b1
         try clear hcz28_0
         try clear hcz28_1
         try clear hcz28_2
         try clear hcz28_3
         try clear hcz30_0
         try clear hcz30_1
         try clear hcz34_0
         try clear hcz34_1
         try clear hcz39_0
         try clear hcz39_1
         try clear hcz39_2
         try clear hcz39_3
         try clear hcz41_0
         try clear hcz41_1
         try clear hcz47_0
         try clear hcz47_1
         try clear hcz47_2
         try clear hcz47_3
         try clear hcz52_0
         try clear hcz52_1
         try clear hcz52_2
         try clear hcz52_3
         try clear hcz57_0
         try clear hcz57_1
         try clear hcz57_2
         try clear hcz57_3
         try clear hfz28_0
         try clear hfz28_1
         try clear hfz28_2
         try clear hfz28_3
         try clear hfz30_0
         try clear hfz30_1
         try clear hfz34_0
         try clear hfz34_1
         try clear hfz39_0
         try clear hfz39_1
         try clear hfz39_2
         try clear hfz39_3
         try clear hfz41_0
         try clear hfz41_1
         try clear hfz47_0
         try clear hfz47_1
         try clear hfz47_2
         try clear hfz47_3
         try clear hfz52_0
         try clear hfz52_1
         try clear hfz52_2
         try clear hfz52_3
         try clear hfz57_0
         try clear hfz57_1
         try clear hfz57_2
         try clear hfz57_3
         try clear hx199_0
         try clear hx199_1
         try clear hx200_0
         try clear hx201_0
         try clear hx204_0
         try clear hx207_0
         try clear hx217_0
         try clear p1
         try clear p199
         try clear p2
         try clear p200
         try clear p201
         try clear p204
         try clear p207
         try clear p217
         try clear q1
         try clear q199
         try clear q2
         try clear q200
         try clear q201
         try clear q204
         try clear q207
         try clear q217
         obtain ⟨kq, x80_57, rfl, HA, HJ57, HO_4, HO_193000, HO_193001, BK191, BK192, HR199_1, HB⟩ := hcut
         cases kq with
         | zero => exact absurd HA.out (by simp [conciergeref15_Select.j2])
         | succ kj57 =>
          have H := HA.out
          clear HA
          simp only [conciergeref15_Select.j2] at H
          by_cases c61 : x80_57 = true
          ·subst c61
           rw [if_pos rfl] at H
           by_cases c62 : 1 < (((rd_T48 t193 x5_1).f1).length : Int)
           ·rw [if_pos c62] at H
            have c62b0 : decide (1 < (((rd_T48 t193 x5_1).f1).length : Int)) = true := decide_eq_true c62
            have c62b1 : decide (1 < ((rd_T48 t193 x5_1).f1).length) = true := decide_eq_true (by omega)
            clear c62
            replace H := Option.bind_eq_some_iff.mp H
            obtain ⟨⟨t219, t220⟩, A630, H⟩ := H
            have A63 := Aside0.mk A630
            clear A630
            by_cases c64 : t220 = true
            ·subst c64
             rw [if_pos rfl] at H
             by_cases c65 : (x193001_1.length : Int) < 32
             ·rw [if_pos c65] at H
              have c65b0 : decide ((x193001_1.length : Int) < 32) = true := decide_eq_true c65
              have c65b1 : decide (x193001_1.length < 32) = true := decide_eq_true (by omega)
              clear c65
              by_cases c66 : x193001_1.length < 8796093022208
              ·rw [if_pos c66] at H
               have LMc66 := Aside0.mk c66
               clear c66
               obtain ⟨y221, hy221⟩ : ∃ y_ : List ByteArray, y_ = (x193001_1 ++ [t219]) := ⟨_, rfl⟩
               replace H : (conciergeref15_Select.l0 kj57 t193 (wrap64 (x5_1 + 1)) x193000_1 y221) = some (r1, r2) := by first | (rw [hy221]; with_reducible exact H) | (have H2_ := (Option.bind_some _ _).symm.trans H; rw [hy221]; with_reducible exact H2_) | (have H2_ := (Option.bind_some _ _).symm.trans H; with_reducible exact H2_) | with_reducible exact H | (rw [hy221]; exact H) | exact H
               have Ny221 := Aside0.mk hy221
               clear hy221
               have H' := Aside0.mk H
               clear H
               have p218 : 0 ≤ (1 : Int) := (by omega)
               have q218 : 1 < (((rd_T48 t193 x5_1).f1).length : Int) := of_decide_eq_true (by first | (with_reducible assumption) | assumption)
               obtain ⟨ad218, e218, hx218_0⟩ := Kd.at_string (by repeat (first | (with_reducible exact HR199_1.out) | (with_reducible refine Kd.C_alloc ?_ _) | (with_reducible refine Kd.C_drewN ?_ _) | (with_reducible refine Kd.C_drew ?_) | exact HR199_1.out)) 1 p218 q218
               cases e218
               (try simp only [show (1 : Int).toNat = 1 from rfl, Nat.reduceMul, Nat.reduceEqDiff, Go.Addr.add, ↓reduceIte] at hx218_0)
               have qi218 : (1 < ((rd_T48 t193 x5_1).f1).length) = True := eq_true (by omega)
               (try rw [show ((1 : Int)).toNat = 1 from rfl] at hx218_0)
               replace p218 := eq_true p218
               replace q218 := eq_true q218
               go_wp2_with (first | ((with_reducible refine gate_callee (f := 24) rfl ?_); refine goesL_ (some 94) rfl rfl Try.func24 (by kernel_rfl) rfl #[.string (rdOf ByteArray.empty ((rd_T48 t193 x5_1).f1) 1)] rfl s2_ ?_; (with_reducible refine (conciergeref2_Parse.calls kj57 (rdOf ByteArray.empty ((rd_T48 t193 x5_1).f1) 1) t219 true _ A63.out).mono ?_); rintro e w67 ⟨rfl, hb⟩; refine ⟨_, rfl, ?_⟩; have n0_ := Aside0.mk (Kd.S_below (fA2 HO_4) hb); have n1_ := Aside0.mk (Kd.R_below (fA0 HO_193000) hb); have n2_ := Aside0.mk (Kd.R_below (fA0 HO_193001) hb); have n3_ := Aside0.mk (blk_below (g := gb191) (o := .cells #[.slice none 0 0, .slice none 0 0] 28 (0, 0)) (fA1 BK191) hb); have n4_ := Aside0.mk (blk_below (g := gb192) (o := .cells #[u193000, u193001] 28 (0, 0)) (fA1 BK192) hb); have n5_ := Aside0.mk (Kd.C_below (by repeat (first | (with_reducible exact HR199_1.out) | (with_reducible refine Kd.C_alloc ?_ _) | (with_reducible refine Kd.C_drewN ?_ _) | (with_reducible refine Kd.C_drew ?_) | exact HR199_1.out)) hb); have n6_ := Aside0.mk (below_step (fB2 GE191 GE192) hb); clear HO_4; clear HO_193000; clear HO_193001; clear BK191; clear BK192; clear HR199_1; clear HB; have HO_4 := n0_; have HO_193000 := n1_; have HO_193001 := n2_; have BK191 := n3_; have BK192 := n4_; have HR199_1 := n5_; have HB := n6_; clear n0_ n1_ n2_ n3_ n4_ n5_ n6_; (try clear hb); (try clear hb2); (try clear hk); (try clear hi); have hnb68 := NB192_191.out; have hnc68 := NB191_192.out; have hcz69_0 : w67.cell? ⟨gb192, 0, none⟩ = some (u193000) := (blk_cell BK192.out 0).trans rfl; have hcz69_1 : w67.cell? ⟨gb192, 1, none⟩ = some (u193001) := (blk_cell BK192.out 1).trans rfl; have hfz69_0 := blk_frozen BK192.out 0; have hfz69_1 := blk_frozen BK192.out 1; obtain ⟨Ao70, co70, eo70⟩ := Kd.R_slice HO_193001.out; subst eo70) | ((with_reducible refine gate_builtin (b := .append) (xs := #[.tmp 105, .tmp 107]) rfl ?_); (try (refine gate_guard (by rfl) ?_; dsimp only)); at_builtin; refine Kd.R_append Kd.string (w0 := w) w.heap.size rfl (.tmp 105) (.tmp 107) 26 9 (.string ⟨#[]⟩) 16 rfl Try.underlying26 info9 rfl (by decide) (by omega) (.slice Ao70 x193001_1.length co70) x193001_1 t219 [.string t219] (fun _ => True) (fun _ => False) rfl rfl ?aP (fun _ hk => hk.elim) ?aF ?aO ?aB ?aS ?aL ?_; (case aP => exact rfl); (case aB => exact (fB2 GE191 GE192)); (case aF => exact (fun _ _ => trivial)); (case aO => exact (fA0 HO_193001)); (case aS => exact (below_size (fB2 GE191 GE192))); (case aL => have := LMc66.out; omega); intro v222 w71 ho hb hg hat; rw [← Ny221.out] at ho; have n0_ := Aside0.mk (Kd.S_after (ok := (fun _ => True)) (by (with_reducible repeat (first | apply Kd.S_alloc | apply Kd.S_drewN | apply Kd.S_drew)); exact Kd.S_mono HO_4.out (fun _ hk => ⟨trivial, hk⟩)) hg hat); have n1_ := Aside0.mk (Kd.R_over' (fA0 HO_193000) (Kd.R_typed (fA0 HO_193001)) (by decide) hg); have n2_ := Aside0.mk (blk_grown (g := gb191) (o := .cells #[.slice none 0 0, .slice none 0 0] 28 (0, 0)) (fA1 BK191) hg (Kd.R_ne HO_193001.out BK191.out (by decide))); have n3_ := Aside0.mk (blk_grown (g := gb192) (o := .cells #[u193000, .slice Ao70 x193001_1.length co70] 28 (0, 0)) (fA1 BK192) hg (Kd.R_ne HO_193001.out BK192.out (by decide))); have n4_ := Aside0.mk (hb); have n5_ := Aside0.mk (ho); clear HO_4; clear HO_193000; clear BK191; clear BK192; clear HB; clear HO_193001; have HO_4 := n0_; have HO_193000 := n1_; have BK191 := n2_; have BK192 := n3_; have HB := n4_; have HO223 := n5_; clear n0_ n1_ n2_ n3_ n4_ n5_; clear ho hb hg hat; obtain ⟨Ao72, co72, eo72⟩ := Kd.R_slice HO223.out; subst eo72; have hcz73_0 : w71.cell? ⟨gb192, 0, none⟩ = some (u193000) := (blk_cell BK192.out 0).trans rfl; have hcz73_1 : w71.cell? ⟨gb192, 1, none⟩ = some (.slice Ao70 x193001_1.length co70) := (blk_cell BK192.out 1).trans rfl; have hfz73_0 := blk_frozen BK192.out 0; have hfz73_1 := blk_frozen BK192.out 1))
               go_roundg kj57
               case measure => have := HK1.out; have := HJ7.out; have := HJ57.out; omega
               case rel => exact ⟨(wrap64 (x5_1 + 1)), (x193000_1), (y221), (u193000), (.slice Ao72 y221.length co72), s1_, H', ⟨by have := HK1.out; have := HJ7.out; have := HJ57.out; omega⟩, ⟨by (with_reducible repeat (first | apply Kd.S_alloc | apply Kd.S_drewN | apply Kd.S_drew)); exact Kd.S_mono (Kd.S_far (p := ⟨gb192, 1, none⟩) (Kd.S_types HO_4.out BK192.out (by decide)) (fun _ hk => hk.2) (.slice Ao72 y221.length co72)) (fun _ hk => hk.1.2)⟩, ⟨by (with_reducible repeat (first | apply Kd.R_alloc | apply Kd.R_drewN | apply Kd.R_drew)); exact Kd.R_mono (Kd.R_far (p := ⟨gb192, 1, none⟩) (Kd.R_types HO_193000.out BK192.out (by decide)) (fun _ hk => hk.2) (.slice Ao72 y221.length co72)) (fun _ hk => trivial)⟩, ⟨by (with_reducible repeat (first | apply Kd.R_alloc | apply Kd.R_drewN | apply Kd.R_drew)); exact Kd.R_mono (Kd.R_far (p := ⟨gb192, 1, none⟩) (Kd.R_types HO223.out BK192.out (by decide)) (fun _ hk => hk.2) (.slice Ao72 y221.length co72)) (fun _ hk => trivial)⟩, ⟨by (with_reducible repeat (first | refine blk_drewN ?_ _ | refine blk_drew ?_ | refine blk_alloc ?_ _)); refine blk_far ?_ NB191_192.out _; (with_reducible repeat (first | refine blk_drewN ?_ _ | refine blk_drew ?_ | refine blk_alloc ?_ _)); exact BK191.out⟩, ⟨by (with_reducible repeat (first | refine blk_drewN ?_ _ | refine blk_drew ?_ | refine blk_alloc ?_ _)); refine blk_put (cs := #[u193000, .slice Ao70 x193001_1.length co70]) ?_ 1 _ rfl; (with_reducible repeat (first | refine blk_drewN ?_ _ | refine blk_drew ?_ | refine blk_alloc ?_ _)); exact BK192.out⟩, ⟨(fB2 GE191 GE192)⟩⟩
              ·rw [if_neg c66] at H
               exact absurd H (by simp)
             ·rw [if_neg c65] at H
              have c65b0 : decide ((x193001_1.length : Int) < 32) = false := decide_eq_false c65
              have c65b1 : decide (x193001_1.length < 32) = false := decide_eq_false (by omega)
              clear c65
              have H' := Aside0.mk H
              clear H
              have p218 : 0 ≤ (1 : Int) := (by omega)
              have q218 : 1 < (((rd_T48 t193 x5_1).f1).length : Int) := of_decide_eq_true (by first | (with_reducible assumption) | assumption)
              obtain ⟨ad218, e218, hx218_0⟩ := Kd.at_string (by repeat (first | (with_reducible exact HR199_1.out) | (with_reducible refine Kd.C_alloc ?_ _) | (with_reducible refine Kd.C_drewN ?_ _) | (with_reducible refine Kd.C_drew ?_) | exact HR199_1.out)) 1 p218 q218
              cases e218
              (try simp only [show (1 : Int).toNat = 1 from rfl, Nat.reduceMul, Nat.reduceEqDiff, Go.Addr.add, ↓reduceIte] at hx218_0)
              have qi218 : (1 < ((rd_T48 t193 x5_1).f1).length) = True := eq_true (by omega)
              (try rw [show ((1 : Int)).toNat = 1 from rfl] at hx218_0)
              replace p218 := eq_true p218
              replace q218 := eq_true q218
              go_wp2_with (first | ((with_reducible refine gate_callee (f := 24) rfl ?_); refine goesL_ (some 94) rfl rfl Try.func24 (by kernel_rfl) rfl #[.string (rdOf ByteArray.empty ((rd_T48 t193 x5_1).f1) 1)] rfl s2_ ?_; (with_reducible refine (conciergeref2_Parse.calls kj57 (rdOf ByteArray.empty ((rd_T48 t193 x5_1).f1) 1) t219 true _ A63.out).mono ?_); rintro e w74 ⟨rfl, hb⟩; refine ⟨_, rfl, ?_⟩; have n0_ := Aside0.mk (Kd.S_below (fA2 HO_4) hb); have n1_ := Aside0.mk (Kd.R_below (fA0 HO_193000) hb); have n2_ := Aside0.mk (Kd.R_below (fA0 HO_193001) hb); have n3_ := Aside0.mk (blk_below (g := gb191) (o := .cells #[.slice none 0 0, .slice none 0 0] 28 (0, 0)) (fA1 BK191) hb); have n4_ := Aside0.mk (blk_below (g := gb192) (o := .cells #[u193000, u193001] 28 (0, 0)) (fA1 BK192) hb); have n5_ := Aside0.mk (Kd.C_below (by repeat (first | (with_reducible exact HR199_1.out) | (with_reducible refine Kd.C_alloc ?_ _) | (with_reducible refine Kd.C_drewN ?_ _) | (with_reducible refine Kd.C_drew ?_) | exact HR199_1.out)) hb); have n6_ := Aside0.mk (below_step (fB2 GE191 GE192) hb); clear HO_4; clear HO_193000; clear HO_193001; clear BK191; clear BK192; clear HR199_1; clear HB; have HO_4 := n0_; have HO_193000 := n1_; have HO_193001 := n2_; have BK191 := n3_; have BK192 := n4_; have HR199_1 := n5_; have HB := n6_; clear n0_ n1_ n2_ n3_ n4_ n5_ n6_; (try clear hb); (try clear hb2); (try clear hk); (try clear hi); have hnb75 := NB192_191.out; have hnc75 := NB191_192.out; have hcz76_0 : w74.cell? ⟨gb192, 0, none⟩ = some (u193000) := (blk_cell BK192.out 0).trans rfl; have hcz76_1 : w74.cell? ⟨gb192, 1, none⟩ = some (u193001) := (blk_cell BK192.out 1).trans rfl; have hfz76_0 := blk_frozen BK192.out 0; have hfz76_1 := blk_frozen BK192.out 1; obtain ⟨Ao77, co77, eo77⟩ := Kd.R_slice HO_193001.out; subst eo77))
              go_roundg kj57
              case measure => have := HK1.out; have := HJ7.out; have := HJ57.out; omega
              case rel => exact ⟨(wrap64 (x5_1 + 1)), (x193000_1), (x193001_1), (u193000), (.slice Ao77 x193001_1.length co77), s1_, H', ⟨by have := HK1.out; have := HJ7.out; have := HJ57.out; omega⟩, ⟨(fA2 HO_4)⟩, ⟨(fA0 HO_193000)⟩, ⟨(fA0 HO_193001)⟩, ⟨(fA1 BK191)⟩, ⟨(fA1 BK192)⟩, ⟨(fB2 GE191 GE192)⟩⟩
            ·replace c64 := Bool.eq_false_iff.mpr c64
             subst c64
             rw [if_neg (show ¬ (false = true) by decide)] at H
             have H' := Aside0.mk H
             clear H
             have p218 : 0 ≤ (1 : Int) := (by omega)
             have q218 : 1 < (((rd_T48 t193 x5_1).f1).length : Int) := of_decide_eq_true (by first | (with_reducible assumption) | assumption)
             obtain ⟨ad218, e218, hx218_0⟩ := Kd.at_string (by repeat (first | (with_reducible exact HR199_1.out) | (with_reducible refine Kd.C_alloc ?_ _) | (with_reducible refine Kd.C_drewN ?_ _) | (with_reducible refine Kd.C_drew ?_) | exact HR199_1.out)) 1 p218 q218
             cases e218
             (try simp only [show (1 : Int).toNat = 1 from rfl, Nat.reduceMul, Nat.reduceEqDiff, Go.Addr.add, ↓reduceIte] at hx218_0)
             have qi218 : (1 < ((rd_T48 t193 x5_1).f1).length) = True := eq_true (by omega)
             (try rw [show ((1 : Int)).toNat = 1 from rfl] at hx218_0)
             replace p218 := eq_true p218
             replace q218 := eq_true q218
             go_wp2_with (first | ((with_reducible refine gate_callee (f := 24) rfl ?_); refine goesL_ (some 94) rfl rfl Try.func24 (by kernel_rfl) rfl #[.string (rdOf ByteArray.empty ((rd_T48 t193 x5_1).f1) 1)] rfl s2_ ?_; (with_reducible refine (conciergeref2_Parse.calls kj57 (rdOf ByteArray.empty ((rd_T48 t193 x5_1).f1) 1) t219 false _ A63.out).mono ?_); rintro e w78 ⟨rfl, hb⟩; refine ⟨_, rfl, ?_⟩; have n0_ := Aside0.mk (Kd.S_below (fA2 HO_4) hb); have n1_ := Aside0.mk (Kd.R_below (fA0 HO_193000) hb); have n2_ := Aside0.mk (Kd.R_below (fA0 HO_193001) hb); have n3_ := Aside0.mk (blk_below (g := gb191) (o := .cells #[.slice none 0 0, .slice none 0 0] 28 (0, 0)) (fA1 BK191) hb); have n4_ := Aside0.mk (blk_below (g := gb192) (o := .cells #[u193000, u193001] 28 (0, 0)) (fA1 BK192) hb); have n5_ := Aside0.mk (Kd.C_below (by repeat (first | (with_reducible exact HR199_1.out) | (with_reducible refine Kd.C_alloc ?_ _) | (with_reducible refine Kd.C_drewN ?_ _) | (with_reducible refine Kd.C_drew ?_) | exact HR199_1.out)) hb); have n6_ := Aside0.mk (below_step (fB2 GE191 GE192) hb); clear HO_4; clear HO_193000; clear HO_193001; clear BK191; clear BK192; clear HR199_1; clear HB; have HO_4 := n0_; have HO_193000 := n1_; have HO_193001 := n2_; have BK191 := n3_; have BK192 := n4_; have HR199_1 := n5_; have HB := n6_; clear n0_ n1_ n2_ n3_ n4_ n5_ n6_; (try clear hb); (try clear hb2); (try clear hk); (try clear hi)))
             go_roundg kj57
             case measure => have := HK1.out; have := HJ7.out; have := HJ57.out; omega
             case rel => exact ⟨(wrap64 (x5_1 + 1)), (x193000_1), (x193001_1), (u193000), (u193001), s1_, H', ⟨by have := HK1.out; have := HJ7.out; have := HJ57.out; omega⟩, ⟨(fA2 HO_4)⟩, ⟨(fA0 HO_193000)⟩, ⟨(fA0 HO_193001)⟩, ⟨(fA1 BK191)⟩, ⟨(fA1 BK192)⟩, ⟨(fB2 GE191 GE192)⟩⟩
           ·rw [if_neg c62] at H
            exact absurd H (by simp)
          ·replace c61 := Bool.eq_false_iff.mpr c61
           subst c61
           rw [if_neg (show ¬ (false = true) by decide)] at H
           have H' := Aside0.mk H
           clear H
           go_wp2
           go_roundg kj57
           case measure => have := HK1.out; have := HJ7.out; have := HJ57.out; omega
           case rel => exact ⟨(wrap64 (x5_1 + 1)), (x193000_1), (x193001_1), (u193000), (u193001), s1_, H', ⟨by have := HK1.out; have := HJ7.out; have := HJ57.out; omega⟩, ⟨(fA2 HO_4)⟩, ⟨(fA0 HO_193000)⟩, ⟨(fA0 HO_193001)⟩, ⟨(fA1 BK191)⟩, ⟨(fA1 BK192)⟩, ⟨(fB2 GE191 GE192)⟩⟩
    ·rw [if_neg c7] at H
     exact absurd H (by simp)
   ·rw [if_neg c6] at H
    have c6b0 : decide (x5_1 < (t193.length : Int)) = false := decide_eq_false c6
    clear c6
    by_cases c79 : (x193000_1.length : Int) = 0
    ·rw [if_pos c79] at H
     have c79b0 : ((x193000_1.length : Int) == 0) = true := beq_iff_eq.mpr c79
     have c79b1 : ((x193000_1.length : Int) != 0) = false := bne_eq_false_iff_eq.mpr c79
     clear c79
     replace H := Option.bind_eq_some_iff.mp H
     obtain ⟨t196, A800, H⟩ := H
     have A80 := Aside0.mk A800
     clear A800
     simp only [Option.some.injEq, Prod.mk.injEq] at H
     obtain ⟨rfl, rfl⟩ := H
     obtain ⟨Ao81, co81, eo81⟩ := Kd.S_slice HO_4.out
     subst eo81
     have hnb82 := NB192_191.out
     have hnc82 := NB191_192.out
     have hcz83_0 : wr.cell? ⟨gb192, 0, none⟩ = some (u193000) := (blk_cell BK192.out 0).trans rfl
     have hcz83_1 : wr.cell? ⟨gb192, 1, none⟩ = some (u193001) := (blk_cell BK192.out 1).trans rfl
     have hfz83_0 := blk_frozen BK192.out 0
     have hfz83_1 := blk_frozen BK192.out 1
     obtain ⟨Ao84, co84, eo84⟩ := Kd.R_slice HO_193000.out
     subst eo84
     go_wp2_with (first | ((with_reducible refine gate_callee (f := 19) rfl ?_); refine goesL_ (some 114) rfl rfl Try.func19 (by kernel_rfl) rfl #[] rfl s2_ ?_; (with_reducible refine (conciergeref15_Rows.calls k1  t196 _ A80.out).mono ?_); rintro e w85 ⟨v197, rfl, ho0, hb⟩; refine ⟨_, rfl, ?_⟩; have n0_ := Aside0.mk (Kd.S_below (fA2 HO_4) hb); have n1_ := Aside0.mk (Kd.R_elder' (fA0 HO_193000) (Kd.R_base ho0) hb); have n2_ := Aside0.mk (Kd.R_below (fA0 HO_193001) hb); have n3_ := Aside0.mk (Kd.R_lower (Kd.R_new' ho0 (Kd.R_lt (fA0 HO_193000))) (below_size (fB2 GE191 GE192))); have n4_ := Aside0.mk (blk_below (g := gb191) (o := .cells #[.slice none 0 0, .slice none 0 0] 28 (0, 0)) (fA1 BK191) hb); have n5_ := Aside0.mk (blk_below (g := gb192) (o := .cells #[.slice Ao84 x193000_1.length co84, u193001] 28 (0, 0)) (fA1 BK192) hb); have n6_ := Aside0.mk (below_step (fB2 GE191 GE192) hb); clear HO_4; clear HO_193000; clear HO_193001; clear BK191; clear BK192; clear HB; have HO_4 := n0_; have HO_193000 := n1_; have HO_193001 := n2_; have HO198 := n3_; have BK191 := n4_; have BK192 := n5_; have HB := n6_; clear n0_ n1_ n2_ n3_ n4_ n5_ n6_; (try clear hb); (try clear hb2); (try clear hk); (try clear hi); (try clear ho0); obtain ⟨Ao86, co86, eo86⟩ := Kd.R_slice HO198.out; subst eo86; have hcz87_0 : w85.cell? ⟨gb192, 0, none⟩ = some (.slice Ao84 x193000_1.length co84) := (blk_cell BK192.out 0).trans rfl; have hcz87_1 : w85.cell? ⟨gb192, 1, none⟩ = some (u193001) := (blk_cell BK192.out 1).trans rfl; have hfz87_0 := blk_frozen BK192.out 0; have hfz87_1 := blk_frozen BK192.out 1; have hcz88_0 : w85.cell? ⟨gb191, 0, none⟩ = some (.slice none 0 0) := (blk_cell BK191.out 0).trans rfl; have hcz88_1 : w85.cell? ⟨gb191, 1, none⟩ = some (.slice none 0 0) := (blk_cell BK191.out 1).trans rfl; have hfz88_0 := blk_frozen BK191.out 0; have hfz88_1 := blk_frozen BK191.out 1; obtain ⟨Ao89, co89, eo89⟩ := Kd.R_slice HO_193001.out; subst eo89))
     refine bodyPost_ret (results_cell_row rfl _ _ gb191 28 #[.slice Ao86 t196.length co86, .slice Ao89 x193001_1.length co89] (0, 0) _ rfl (by (with_reducible repeat (first | refine blk_drewN ?_ _ | refine blk_drew ?_ | refine blk_alloc ?_ _)); refine blk_put (cs := #[.slice Ao86 t196.length co86, .slice none 0 0]) ?_ 1 _ rfl; (with_reducible repeat (first | refine blk_drewN ?_ _ | refine blk_drew ?_ | refine blk_alloc ?_ _)); refine blk_put (cs := #[.slice none 0 0, .slice none 0 0]) ?_ 0 _ rfl; (with_reducible repeat (first | refine blk_drewN ?_ _ | refine blk_drew ?_ | refine blk_alloc ?_ _)); refine blk_far ?_ NB191_192.out _; (with_reducible repeat (first | refine blk_drewN ?_ _ | refine blk_drew ?_ | refine blk_alloc ?_ _)); exact BK191.out) Try.underlying28 rfl (by kernel_rfl)) rfl ?_
     exact ⟨_, _, by first | rfl | (simp [errW_none, errW_some] <;> rfl) | (simp [*, errW_none, errW_some] <;> rfl), by (with_reducible repeat (first | apply Kd.R_alloc | apply Kd.R_drewN | apply Kd.R_drew)); exact Kd.R_mono (Kd.R_far (p := ⟨gb191, 1, none⟩) (Kd.R_far (p := ⟨gb191, 0, none⟩) (Kd.R_far (p := ⟨gb192, 0, none⟩) (Kd.R_types (Kd.R_types HO198.out BK192.out (by decide)) BK191.out (by decide)) (fun _ hk => hk.1.2) (.slice Ao86 t196.length co86)) (fun _ hk => hk.2) (.slice Ao86 t196.length co86)) (fun _ hk => hk.2) (.slice Ao89 x193001_1.length co89)) (fun _ hk => trivial), by (with_reducible repeat (first | apply Kd.R_alloc | apply Kd.R_drewN | apply Kd.R_drew)); exact Kd.R_mono (Kd.R_far (p := ⟨gb191, 1, none⟩) (Kd.R_far (p := ⟨gb191, 0, none⟩) (Kd.R_far (p := ⟨gb192, 0, none⟩) (Kd.R_types (Kd.R_types HO_193001.out BK192.out (by decide)) BK191.out (by decide)) (fun _ hk => hk.1.2) (.slice Ao86 t196.length co86)) (fun _ hk => hk.2) (.slice Ao86 t196.length co86)) (fun _ hk => hk.2) (.slice Ao89 x193001_1.length co89)) (fun _ hk => trivial), (fB2 GE191 GE192)⟩
    ·rw [if_neg c79] at H
     have c79b0 : ((x193000_1.length : Int) == 0) = false := beq_eq_false_iff_ne.mpr c79
     have c79b1 : ((x193000_1.length : Int) != 0) = true := bne_iff_ne.mpr c79
     have c79b2 : ¬ (x193000_1 = []) := fun h_ => c79 (by rw [h_]; rfl)
     simp only [Option.some.injEq, Prod.mk.injEq] at H
     obtain ⟨rfl, rfl⟩ := H
     obtain ⟨Ao90, co90, eo90⟩ := Kd.S_slice HO_4.out
     subst eo90
     have hnb91 := NB192_191.out
     have hnc91 := NB191_192.out
     have hcz92_0 : wr.cell? ⟨gb192, 0, none⟩ = some (u193000) := (blk_cell BK192.out 0).trans rfl
     have hcz92_1 : wr.cell? ⟨gb192, 1, none⟩ = some (u193001) := (blk_cell BK192.out 1).trans rfl
     have hfz92_0 := blk_frozen BK192.out 0
     have hfz92_1 := blk_frozen BK192.out 1
     obtain ⟨Ao93, co93, eo93⟩ := Kd.R_slice HO_193000.out
     subst eo93
     have hcz94_0 : wr.cell? ⟨gb191, 0, none⟩ = some (.slice none 0 0) := (blk_cell BK191.out 0).trans rfl
     have hcz94_1 : wr.cell? ⟨gb191, 1, none⟩ = some (.slice none 0 0) := (blk_cell BK191.out 1).trans rfl
     have hfz94_0 := blk_frozen BK191.out 0
     have hfz94_1 := blk_frozen BK191.out 1
     obtain ⟨Ao95, co95, eo95⟩ := Kd.R_slice HO_193001.out
     subst eo95
     go_wp2
     refine bodyPost_ret (results_cell_row rfl _ _ gb191 28 #[.slice Ao93 x193000_1.length co93, .slice Ao95 x193001_1.length co95] (0, 0) _ rfl (by (with_reducible repeat (first | refine blk_drewN ?_ _ | refine blk_drew ?_ | refine blk_alloc ?_ _)); refine blk_put (cs := #[.slice Ao93 x193000_1.length co93, .slice none 0 0]) ?_ 1 _ rfl; (with_reducible repeat (first | refine blk_drewN ?_ _ | refine blk_drew ?_ | refine blk_alloc ?_ _)); refine blk_put (cs := #[.slice none 0 0, .slice none 0 0]) ?_ 0 _ rfl; (with_reducible repeat (first | refine blk_drewN ?_ _ | refine blk_drew ?_ | refine blk_alloc ?_ _)); exact BK191.out) Try.underlying28 rfl (by kernel_rfl)) rfl ?_
     exact ⟨_, _, by first | rfl | (simp [errW_none, errW_some] <;> rfl) | (simp [*, errW_none, errW_some] <;> rfl), by (with_reducible repeat (first | apply Kd.R_alloc | apply Kd.R_drewN | apply Kd.R_drew)); exact Kd.R_mono (Kd.R_far (p := ⟨gb191, 1, none⟩) (Kd.R_far (p := ⟨gb191, 0, none⟩) (Kd.R_types HO_193000.out BK191.out (by decide)) (fun _ hk => hk.2) (.slice Ao93 x193000_1.length co93)) (fun _ hk => hk.2) (.slice Ao95 x193001_1.length co95)) (fun _ hk => trivial), by (with_reducible repeat (first | apply Kd.R_alloc | apply Kd.R_drewN | apply Kd.R_drew)); exact Kd.R_mono (Kd.R_far (p := ⟨gb191, 1, none⟩) (Kd.R_far (p := ⟨gb191, 0, none⟩) (Kd.R_types HO_193001.out BK191.out (by decide)) (fun _ hk => hk.2) (.slice Ao93 x193000_1.length co93)) (fun _ hk => hk.2) (.slice Ao95 x193001_1.length co95)) (fun _ hk => trivial), (fB2 GE191 GE192)⟩
end Go.Proofs.Ytlfhahnceeoegaa.All
end
section
namespace Go.Proofs.Ytlfhahnceeoegaa.All
open Go.RowKit Go.Proofs.YtlfhahnceeoegaaW.PrintWords Go.Proofs.YtlfhahnceeoegaaW.PrintLast Go.Proofs.YtlfhahnceeoegaaW.PrintMore
set_option linter.unusedVariables false
set_option linter.unusedSimpArgs false
def addr_Is.f (a0 : ByteArray) : Option (Bool) := if (a0.size : Int) = 4 then (some true) else (some ((a0.size : Int) == 16))
set_option maxHeartbeats 8000000 in
set_option maxRecDepth 100000 in
theorem addr_Is.calls (a0 : ByteArray) (r : Bool) (w : World) (h : addr_Is.f a0 = some r) :
  Calls Try.prog 45 #[.string a0] w fun e w' => e = .returned (.bool r) ∧ Drawn0 w w' := by
 have H : (if (a0.size : Int) = 4 then (some true) else (some ((a0.size : Int) == 16))) = some r := h
 clear h
 by_cases c2 : (a0.size : Int) = 4
 ·rw [if_pos c2] at H
  have c2b0 : ((a0.size : Int) == 4) = true := beq_iff_eq.mpr c2
  have c2b1 : ((a0.size : Int) != 4) = false := bne_eq_false_iff_eq.mpr c2
  clear c2
  obtain rfl := Option.some.inj H
  go_enter Try.func45, Try.ntmps45
  go_wp2
  go_ret
  exact ⟨s1_, by repeat (first | exact Drawn0.refl _ | apply Drawn0.step)⟩
 ·rw [if_neg c2] at H
  have c2b0 : ((a0.size : Int) == 4) = false := beq_eq_false_iff_ne.mpr c2
  have c2b1 : ((a0.size : Int) != 4) = true := bne_iff_ne.mpr c2
  obtain rfl := Option.some.inj H
  go_enter Try.func45, Try.ntmps45
  go_wp2
  go_ret
  exact ⟨s1_, by repeat (first | exact Drawn0.refl _ | apply Drawn0.step)⟩
end Go.Proofs.Ytlfhahnceeoegaa.All
end
section
namespace Go.Proofs
open Go.Shelf
def Try.lays126_ren : Go.Shelf.Ren := ⟨fun | 126 => 56 | n => n, fun | 5 => 5 | 3 => 3 | 9 => 9 | n => n, fun | n => n⟩
theorem Try.lays126 : Go.Proofs.Lays.n126 Try.prog Try.lays126_ren := {
 mixed := by kernel_rfl
 f126 := Try.func56.trans (congrArg some (by kernel_rfl))
 t3 := Try.underlying3
 a3 := Try.isAgg3
 z3 := Try.sizeOf3
 v3 := Try.zeroValue3
 t5 := Try.underlying5
 a5 := Try.isAgg5
 z5 := Try.sizeOf5
 v5 := Try.zeroValue5
 t9 := Try.underlying9
 a9 := Try.isAgg9
 z9 := Try.sizeOf9
 v9 := Try.zeroValue9 }
theorem Try.bits_Len8 (x : Int) (w : World) (h0 : 0 ≤ x) (h1 : x ≤ 255) :
  Calls Try.prog 56 #[.int .u8 x] w fun e w' => e = .returned (.int .i64 (Lib.bitLen x.toNat)) ∧ w' = w := Any.bits_Len8 Try.lays126 x w h0 h1
end Go.Proofs
end
section
set_option linter.unusedVariables false
namespace Go.Proofs.Ytlfhahnceeoegaa.All
open Go.RowKit Go.Proofs.YtlfhahnceeoegaaW.PrintWords Go.Proofs.YtlfhahnceeoegaaW.PrintLast
def bits_Len8.f (a0 : Int) : Option (Int) := if 0 ≤ a0 then (if a0 ≤ 255 then some ((Lib.bitLen a0.toNat : Nat) : Int) else none) else none
theorem bits_Len8.calls (a0 : Int) (r : Int) (w : World) (h : bits_Len8.f a0 = some r) :
  Calls Try.prog 56 #[.int .u8 a0] w fun e w' => e = .returned (.int .i64 r) ∧ Drawn0 w w' := by
 unfold bits_Len8.f at h
 by_cases h0 : 0 ≤ a0
 ·rw [if_pos h0] at h
  by_cases h1 : a0 ≤ 255
  ·rw [if_pos h1] at h
   injection h with h
   subst h
   exact (Try.bits_Len8 a0 w h0 h1).mono fun e w' ⟨he, hw⟩ => ⟨he, by rw [hw]; exact Drawn0.refl w⟩
  ·rw [if_neg h1] at h; cases h
 ·rw [if_neg h0] at h; cases h
end Go.Proofs.Ytlfhahnceeoegaa.All
end
