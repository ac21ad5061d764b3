/- OrderSort: pairs are sorted by their keys, equal ones stay as they stood (text 9 of 10) -/
import Derived.Test.YtlfhahnceeoegaaSo2
import Derived.Test.YtlfhahnceeoegaaSo3
import Derived.Test.YtlfhahnceeoegaaSo4
import Derived.Test.YtlfhahnceeoegaaSo5
import Derived.Test.YtlfhahnceeoegaaSo6
import Derived.Test.YtlfhahnceeoegaaSo7
import Derived.Test.YtlfhahnceeoegaaSo8
import Derived.Sort.LotA
import Derived.Laws.BitsAllLaws
import Derived.Laws.BitsLemmas
import Derived.KernelRfl
import Derived.ProofKit
import Derived.Deep.Slices
import Derived.Deep.Fields
import Derived.ChangeSame
import Derived.SliceStrings
namespace Go.Proofs.YtlfhahnceeoegaaW.PrintLast
end Go.Proofs.YtlfhahnceeoegaaW.PrintLast
namespace Go.Proofs.YtlfhahnceeoegaaW.PrintMore
end Go.Proofs.YtlfhahnceeoegaaW.PrintMore
namespace Go.Proofs.YtlfhahnceeoegaaW.PrintWords
end Go.Proofs.YtlfhahnceeoegaaW.PrintWords
section
namespace Go.Proofs.Ytlfhahnceeoegaa.All
open Go.RowKit Go.Proofs.YtlfhahnceeoegaaW.PrintWords Go.Proofs.YtlfhahnceeoegaaW.PrintLast Go.Proofs.YtlfhahnceeoegaaW.PrintMore
set_option linter.unusedVariables false
set_option linter.unusedSimpArgs false
attribute [local go_sem high] eqA35
mutual
def conciergelaw20_OrderSort.l0 : Nat → Bool → List (S34) → List (S34) → List (S34) → Int → List (S52) → List ByteArray → Option (Bool)
 | 0, _, _, _, _, _, _, _ => none
 | k + 1, x5, x7, x8, x9, x10, x406000, x406001 => if x10 < (x8.length : Int) then (if 0 ≤ x10 then (if x10 < (x9.length : Int) then (if ((rd_T34 x8 x10).f0).toList = ((rd_T34 x9 x10).f0).toList then (conciergelaw20_OrderSort.j1 k x5 x7 x8 x9 x10 (((rd_T34 x8 x10).f1).toList != ((rd_T34 x9 x10).f1).toList) x406000 x406001) else (conciergelaw20_OrderSort.j1 k x5 x7 x8 x9 x10 true x406000 x406001)) else (none)) else (none)) else (some x5)
def conciergelaw20_OrderSort.j1 : Nat → Bool → List (S34) → List (S34) → List (S34) → Int → Bool → List (S52) → List ByteArray → Option (Bool)
 | 0, _, _, _, _, _, _, _, _ => none
 | k + 1, x5, x7, x8, x9, x10, x59, x406000, x406001 => if x59 = true then (some false) else (if 0 ≤ x10 then (if x10 < (x7.length : Int) then ((order_Keys.f k x406000 x406001 ((rd_T34 x7 x10).f0) ((rd_T34 x7 x10).f1)).bind fun bt420 => ((conciergeref15_Keys.f k x406000 x406001 ((rd_T34 x7 x10).f0) ((rd_T34 x7 x10).f1)).bind fun bt427 => (if (!(bt420.1 == bt427.1) || (!(bt420.2.1 == bt427.2.1) || (!(bt420.2.2.1 == bt427.2.2.1) || (!(bt420.2.2.2.1 == bt427.2.2.2.1) || (!(bt420.2.2.2.2.1 == bt427.2.2.2.2.1) || (!(bt420.2.2.2.2.2 == bt427.2.2.2.2.2))))))) = true then (some false) else (conciergelaw20_OrderSort.l0 k x5 x7 x8 x9 (wrap64 (x10 + 1)) x406000 x406001)))) else (none)) else (none))
end
def conciergelaw20_OrderSort.f (k : Nat) (l0 : List Int) (l1 : List (S34)) : Option (Bool) := (conciergelaw20_begun.f k).bind fun t395 => (if t395 = true then ((conciergelaw1_Short.f l0 800).bind fun t396 => ((conciergeref15_Select.f k t396).bind fun bt399 => ((conciergelaw20_Cut.f k l1).bind fun t406 => ((order_Sort.f k bt399.1 bt399.2 t406).bind fun t409 => ((conciergeref15_Sort.f k bt399.1 bt399.2 t406).bind fun t412 => (if (t409.length : Int) = (t412.length : Int) then (conciergelaw20_OrderSort.l0 k t395 t406 t409 t412 0 bt399.1 bt399.2) else (some false))))))) else (some false))
def conciergelaw20_OrderSort.T6 : Bool × List (List Nat × List Nat) := (true, [([], []), ([], []), ([0, 1], [0, 1]), ([], []), ([], []), ([3, 4, 2], [3, 4]), ([2, 5, 0, 1, 2], [2]), ([5, 6, 0, 1, 2, 3, 4, 5, 6], [5])])
def conciergelaw20_OrderSort.B6 : List Nat := [0, 0, 3, 0, 0, 31, 63, 127]
theorem conciergelaw20_OrderSort.tab6 : rtab .any (opsOf Try.f3 6) = conciergelaw20_OrderSort.T6 := by kernel_rfl
theorem conciergelaw20_OrderSort.bits6 : waitsOk conciergelaw20_OrderSort.T6.2 conciergelaw20_OrderSort.B6 = true := by kernel_rfl
def conciergelaw20_OrderSort.T12 : Bool × List (List Nat × List Nat) := (true, [([], []), ([], []), ([0, 1], [0, 1]), ([2], [2]), ([3], [3]), ([], []), ([], []), ([5, 6], [5, 6]), ([7], [7]), ([8], [8]), ([4, 9], [4, 9]), ([10], [10]), ([11], [11]), ([11], [11]), ([12, 13, 11], [11, 12, 13]), ([14, 11], [11, 14]), ([15, 11], [11, 15]), ([11], [11]), ([11], [11]), ([17, 18, 11], [11, 17, 18]), ([19, 11], [11, 19]), ([20, 11], [11, 20]), ([16, 21, 11], [11, 16, 21]), ([11, 22], [11, 22])])
def conciergelaw20_OrderSort.B12 : List Nat := [0, 0, 3, 7, 15, 0, 0, 96, 224, 480, 1023, 2047, 4095, 4095, 16383, 32767, 65535, 4095, 4095, 397311, 921599, 1970175, 4194303, 8388607]
theorem conciergelaw20_OrderSort.tab12 : rtab .any (opsOf Try.f3 12) = conciergelaw20_OrderSort.T12 := by kernel_rfl
theorem conciergelaw20_OrderSort.bits12 : waitsOk conciergelaw20_OrderSort.T12.2 conciergelaw20_OrderSort.B12 = true := by kernel_rfl
def conciergelaw20_OrderSort.T14 : Bool × List (List Nat × List Nat) := (true, [([], []), ([], []), ([], []), ([1, 2], [1, 2]), ([3], [3]), ([0, 4], [0, 4]), ([], []), ([], []), ([], []), ([7, 8], [7, 8]), ([9], [9]), ([6, 10, 5], [6, 10]), ([5, 11], [5, 11])])
def conciergelaw20_OrderSort.B14 : List Nat := [0, 0, 0, 6, 14, 31, 0, 0, 0, 384, 896, 2047, 4095]
theorem conciergelaw20_OrderSort.tab14 : rtab .any (opsOf Try.f3 14) = conciergelaw20_OrderSort.T14 := by kernel_rfl
theorem conciergelaw20_OrderSort.bits14 : waitsOk conciergelaw20_OrderSort.T14.2 conciergelaw20_OrderSort.B14 = true := by kernel_rfl
set_option maxHeartbeats 8000000 in
set_option maxRecDepth 100000 in
theorem conciergelaw20_OrderSort.calls (k : Nat) (A0 : Option Addr) (c0 : Nat) (l0 : List Int) (A1 : Option Addr) (c1 : Nat) (l1 : List (S34)) (r : Bool) (w : World) (hr0 : Kd.C (Kd.int .u8) w A0 l0.length l0) (hc0 : l0.length ≤ c0) (hr1 : Kd.C k34 w A1 l1.length l1) (hc1 : l1.length ≤ c1) (h : conciergelaw20_OrderSort.f k l0 l1 = some r) :
  Calls Try.prog 3 #[.slice A0 l0.length c0, .slice A1 l1.length c1] w fun e w' => e = .returned (.bool r) ∧ Below w.heap.size w w' := by
 have hu28 := Try.underlying28
 have hu34 := Try.underlying34
 have HR0 := Aside0.mk hr0
 have HC0 := Aside0.mk hc0
 clear hr0 hc0
 have HR1 := Aside0.mk hr1
 have HC1 := Aside0.mk hc1
 clear hr1 hc1
 have HB := Aside0.mk (Below.refl w.heap.size w)
 have H : ((conciergelaw20_begun.f k).bind fun t395 => (if t395 = true then ((conciergelaw1_Short.f l0 800).bind fun t396 => ((conciergeref15_Select.f k t396).bind fun bt399 => ((conciergelaw20_Cut.f k l1).bind fun t406 => ((order_Sort.f k bt399.1 bt399.2 t406).bind fun t409 => ((conciergeref15_Sort.f k bt399.1 bt399.2 t406).bind fun t412 => (if (t409.length : Int) = (t412.length : Int) then (conciergelaw20_OrderSort.l0 k t395 t406 t409 t412 0 bt399.1 bt399.2) else (some false))))))) else (some false))) = some r := h
 clear h
 replace H := Option.bind_eq_some_iff.mp H
 obtain ⟨t395, A30, H⟩ := H
 have A3 := Aside0.mk A30
 clear A30
 by_cases c4 : t395 = true
 ·subst c4
  rw [if_pos rfl] at H
  replace H := Option.bind_eq_some_iff.mp H
  obtain ⟨t396, A50, H⟩ := H
  have A5 := Aside0.mk A50
  clear A50
  replace H := Option.bind_eq_some_iff.mp H
  obtain ⟨⟨t399, t402⟩, A60, H⟩ := H
  have A6 := Aside0.mk A60
  clear A60
  replace H := Option.bind_eq_some_iff.mp H
  obtain ⟨t406, A70, H⟩ := H
  have A7 := Aside0.mk A70
  clear A70
  replace H := Option.bind_eq_some_iff.mp H
  obtain ⟨t409, A80, H⟩ := H
  have A8 := Aside0.mk A80
  clear A80
  replace H := Option.bind_eq_some_iff.mp H
  obtain ⟨t412, A90, H⟩ := H
  have A9 := Aside0.mk A90
  clear A90
  by_cases c10 : (t409.length : Int) = (t412.length : Int)
  ·rw [if_pos c10] at H
   have c10b0 : ((t409.length : Int) == (t412.length : Int)) = true := beq_iff_eq.mpr c10
   have c10b1 : ((t409.length : Int) != (t412.length : Int)) = false := bne_eq_false_iff_eq.mpr c10
   have c10b2 : (t409.length == t412.length) = true := by first | simpa using c10 | (simp at c10 ⊢; omega)
   clear c10
   have H' := Aside0.mk H
   clear H
   go_enter Try.func3, Try.ntmps3
   try go_wp2_with (first | ((with_reducible refine gate_callee (f := 7) rfl ?_); refine goesL_ (some 11) rfl rfl Try.func7 (by kernel_rfl) rfl #[] rfl s2_ ?_; (with_reducible refine (conciergelaw20_begun.calls k  true _ A3.out).mono ?_); rintro e w11 ⟨rfl, hb⟩; refine ⟨_, rfl, ?_⟩; have n0_ := Aside0.mk (below_step (fB0) hb); clear HB; have HB := n0_; clear n0_; (try clear hb); (try clear hb2); (try clear hk); (try clear hi)) | ((with_reducible refine gate_callee (f := 9) rfl ?_); refine goesL_ (some 15) rfl rfl Try.func9 (by kernel_rfl) rfl #[.slice A0 l0.length c0, .int .i64 800] rfl s2_ ?_; (with_reducible refine (conciergelaw1_Short.calls (fun k_ => k_ < w.heap.size) _ _ l0 800 t396 _ ?side1 A5.out).mono ?_); (case side1 => exact Kd.V_mk HC0.out (Kd.F_below (Kd.C_F (Kd.heap_int .u8) HR0.out) (fB0))); rintro e w12 ⟨v397, rfl, ho0, hb⟩; refine ⟨_, rfl, ?_⟩; have n0_ := Aside0.mk (Kd.V_lower (Kd.V_mono (ok' := fun k_ => True) ho0 (fun k_ hk_ => trivial)) (below_size (fB0))); have n1_ := Aside0.mk (below_step (fB0) hb); clear HB; have HO398 := n0_; have HB := n1_; clear n0_ n1_; (try clear hb); (try clear hb2); (try clear hk); (try clear hi); (try clear ho0); obtain ⟨Ao13, co13, eo13⟩ := Kd.V_slice HO398.out; subst eo13) | ((with_reducible refine gate_callee (f := 8) rfl ?_); refine goesL_ (some 16) rfl rfl Try.func8 (by kernel_rfl) rfl #[.slice Ao13 t396.length co13] rfl s2_ ?_; (with_reducible refine (conciergeref15_Select.calls k _ _ t396 t399 t402 _ ?side1 ?side2 A6.out).mono ?_); (case side1 => repeat (first | exact (Kd.V_reads' HO398.out).2.2 | (with_reducible refine Kd.C_alloc ?_ _) | (with_reducible refine Kd.C_drewN ?_ _) | (with_reducible refine Kd.C_drew ?_))); (case side2 => exact (Kd.V_reads' HO398.out).2.1); rintro e w14 ⟨v400, v403, rfl, ho0, ho1, hb⟩; refine ⟨_, rfl, ?_⟩; have n0_ := Aside0.mk (Kd.V_mono (Kd.V_told (Kd.V_told (Kd.V_old (fA3 HO398) hb) (Kd.R_base ho0)) (Kd.R_base ho1)) (fun _ h_ => h_.1)); have n1_ := Aside0.mk (Kd.R_lower ho0 (below_size (fB0))); have n2_ := Aside0.mk (Kd.R_lower ho1 (below_size (fB0))); have n3_ := Aside0.mk (below_step (fB0) hb); clear HO398; clear HB; have HO398 := n0_; have HO401 := n1_; have HO404 := n2_; have HB := n3_; clear n0_ n1_ n2_ n3_; (try clear hb); (try clear hb2); (try clear hk); (try clear hi); (try clear ho0); (try clear ho1)) | ((with_reducible refine gate_dst (N := 6) rfl ?_); refine box_event ?hg (N := 6) ?hd (cs := #[.slice none 0 0, .slice none 0 0]) (t := 28) ?hr ?_; (case hd => rfl); (case hg => rfl); (case hr => first | (go_simp; done) | (go_simp; rfl)); intro gb405 hg w15 hbox hb; have n0_ := Aside0.mk (Kd.V_below (Kd.V_elderB (fA3 HO398) gb405 (Nat.le_of_eq hg.symm)) hb); have n1_ := Aside0.mk (Kd.R_below (fA0 HO401) hb); have n2_ := Aside0.mk (Kd.R_below (fA0 HO404) hb); have n3_ := Aside0.mk (below_step (fB0) hb); have n4_ := Aside0.mk (hbox); have n5_ := Aside0.mk ((by rw [hg]; exact (below_size (fB0)) : w.heap.size ≤ gb405)); have n6_ := Aside0.mk ((by rw [hg]; exact (below_size (fB0)) : w.heap.size ≤ gb405)); clear HO398; clear HO401; clear HO404; clear HB; have HO398 := n0_; have HO401 := n1_; have HO404 := n2_; have HB := n3_; have BK405 := n4_; have GW405 := n5_; have GE405 := n6_; clear n0_ n1_ n2_ n3_ n4_ n5_ n6_; clear hb hbox hg; obtain ⟨Ao16, co16, eo16⟩ := Kd.R_slice HO401.out; subst eo16; have hcz17_0 : w15.cell? ⟨gb405, 0, none⟩ = some (.slice none 0 0) := (blk_cell BK405.out 0).trans rfl; have hcz17_1 : w15.cell? ⟨gb405, 1, none⟩ = some (.slice none 0 0) := (blk_cell BK405.out 1).trans rfl; have hfz17_0 := blk_frozen BK405.out 0; have hfz17_1 := blk_frozen BK405.out 1; obtain ⟨Ao18, co18, eo18⟩ := Kd.R_slice HO404.out; subst eo18) | ((with_reducible refine gate_callee (f := 10) rfl ?_); refine goesL_ (some 18) rfl rfl Try.func10 (by kernel_rfl) rfl #[.slice A1 l1.length c1] rfl s2_ ?_; (with_reducible refine (conciergelaw20_Cut.calls k _ _ l1 t406 _ ?side1 ?side2 A7.out).mono ?_); (case side1 => exact Kd.C_below HR1.out (fB1 GE405)); (case side2 => exact HC1.out); rintro e w19 ⟨v407, rfl, ho0, hb⟩; refine ⟨_, rfl, ?_⟩; have n0_ := Aside0.mk (Kd.V_elder' (by (with_reducible repeat (first | apply Kd.V_alloc | apply Kd.V_drewN | apply Kd.V_drew)); exact (Kd.V_mono (Kd.V_far (p := ⟨gb405, 1, none⟩) (Kd.V_far (p := ⟨gb405, 0, none⟩) (Kd.V_mono HO398.out (fun k_ hk => (⟨hk, hk.2⟩ : _ ∧ k_ ≠ gb405))) (fun _ hk => hk.2) (.slice Ao16 t399.length co16)) (fun _ hk => hk.2) (.slice Ao18 t402.length co18)) (fun _ h_ => h_.1))) (Kd.R_base ho0) hb); have n1_ := Aside0.mk (Kd.R_below (by (with_reducible repeat (first | apply Kd.R_alloc | apply Kd.R_drewN | apply Kd.R_drew)); exact (Kd.R_mono (Kd.R_far (p := ⟨gb405, 1, none⟩) (Kd.R_far (p := ⟨gb405, 0, none⟩) (Kd.R_types HO401.out BK405.out (by decide)) (fun _ hk => hk.2) (.slice Ao16 t399.length co16)) (fun _ hk => hk.2) (.slice Ao18 t402.length co18)) (fun _ h_ => h_.1))) hb); have n2_ := Aside0.mk (Kd.R_below (by (with_reducible repeat (first | apply Kd.R_alloc | apply Kd.R_drewN | apply Kd.R_drew)); exact (Kd.R_mono (Kd.R_far (p := ⟨gb405, 1, none⟩) (Kd.R_far (p := ⟨gb405, 0, none⟩) (Kd.R_types HO404.out BK405.out (by decide)) (fun _ hk => hk.2) (.slice Ao16 t399.length co16)) (fun _ hk => hk.2) (.slice Ao18 t402.length co18)) (fun _ h_ => h_.1))) hb); have n3_ := Aside0.mk (Kd.R_lower ho0 (below_size (fB1 GE405))); have n4_ := Aside0.mk (blk_below (g := gb405) (o := .cells #[.slice Ao16 t399.length co16, .slice Ao18 t402.length co18] 28 (0, 0)) (by (with_reducible repeat (first | refine blk_drewN ?_ _ | refine blk_drew ?_ | refine blk_alloc ?_ _)); refine blk_put (cs := #[.slice Ao16 t399.length co16, .slice none 0 0]) ?_ 1 _ rfl; (with_reducible repeat (first | refine blk_drewN ?_ _ | refine blk_drew ?_ | refine blk_alloc ?_ _)); refine blk_put (cs := #[.slice none 0 0, .slice none 0 0]) ?_ 0 _ rfl; (with_reducible repeat (first | refine blk_drewN ?_ _ | refine blk_drew ?_ | refine blk_alloc ?_ _)); exact BK405.out) hb); have n5_ := Aside0.mk (below_step (fB1 GE405) hb); clear HO398; clear HO401; clear HO404; clear BK405; clear HB; have HO398 := n0_; have HO401 := n1_; have HO404 := n2_; have HO408 := n3_; have BK405 := n4_; have HB := n5_; clear n0_ n1_ n2_ n3_ n4_ n5_; (try clear hb); (try clear hb2); (try clear hk); (try clear hi); (try clear ho0)))
   have n0_ := Aside0.mk (Kd.V_drew HO398.out)
   have n1_ := Aside0.mk (Kd.R_drew HO401.out)
   have n2_ := Aside0.mk (Kd.R_drew HO404.out)
   have n3_ := Aside0.mk (Kd.R_drew HO408.out)
   have n4_ := Aside0.mk (blk_drew BK405.out)
   have n5_ := Aside0.mk (below_drew1 HB.out)
   clear HO398
   clear HO401
   clear HO404
   clear HO408
   clear BK405
   clear HB
   have HO398 := n0_
   have HO401 := n1_
   have HO404 := n2_
   have HO408 := n3_
   have BK405 := n4_
   have HB := n5_
   clear n0_ n1_ n2_ n3_ n4_ n5_
   obtain ⟨Ao21, co21, eo21⟩ := Kd.R_slice HO408.out
   (first | subst eo21 | (injection eo21 with f1_ f2_ f3_; have f4_ := f1_.symm; have f5_ := f3_.symm; clear f1_ f2_ f3_; subst f4_; subst f5_))
   refine start_ (n := 8) (S := fun w' => w'.cell? ⟨gb405, 0, none⟩ = some (.slice Ao16 t399.length co16) ∧ w'.cell? ⟨gb405, 1, none⟩ = some (.slice Ao18 t402.length co18)) (ds := []) #[false, false, false, false, false, false, false, false] (by kernel_rfl) rfl rfl ⟨(blk_cell BK405.out 0).trans rfl, (blk_cell BK405.out 1).trans rfl⟩ (fun hHeld => ?_); refine with_tabW conciergelaw20_OrderSort.tab6 conciergelaw20_OrderSort.bits6 (fun HT_ HW_ => ?_)
   generalize w19.drew = w20 at HO398 HO401 HO404 HO408 BK405 HB hHeld ⊢
   refine pure_ (i := 1) (N := some 20) (v := ?_) (a' := ?_) #[false, true, false, false, false, false, false, false] rfl rfl (any_of HT_.out (by kernel_rfl)) (fun _ _ _ h => h) (Or.inl ⟨by rfl, ?_⟩) ?_ ?_
   rotate_left
   ·intro w'
    go_simp
    with_reducible rfl
   rotate_left
   ·simp only [Act.put, List.setIfInBounds_toArray, List.set_cons_zero, List.set_cons_succ, i64_w, i32_w]
    rfl
   refine pure_ (i := 4) (N := some 23) (v := ?_) (a' := ?_) #[false, true, false, false, true, false, false, false] rfl rfl (any_of HT_.out (by kernel_rfl)) (fun _ _ _ h => h) (Or.inl ⟨by rfl, ?_⟩) ?_ ?_
   rotate_left
   ·intro w'
    go_simp
    with_reducible rfl
   rotate_left
   ·simp only [Act.put, List.setIfInBounds_toArray, List.set_cons_zero, List.set_cons_succ, i64_w, i32_w]
    rfl
   refine take_ (i := 0) (N := some 19) (v := ?_) (a' := ?_) #[true, true, false, false, true, false, false, false] rfl rfl (take_ofW HT_.out HW_.out (by kernel_rfl)) (fun _ _ _ h => h) (Or.inl ⟨by rfl, ?_⟩) hHeld ?_ ?_
   rotate_left
   ·rintro w' ⟨s0, s1⟩
    go_simp
    with_reducible rfl
   rotate_left
   ·simp only [Act.put, List.setIfInBounds_toArray, List.set_cons_zero, List.set_cons_succ, i64_w, i32_w]
    rfl
   refine take_ (i := 3) (N := some 22) (v := ?_) (a' := ?_) #[true, true, false, true, true, false, false, false] rfl rfl (take_ofW HT_.out HW_.out (by kernel_rfl)) (fun _ _ _ h => h) (Or.inl ⟨by rfl, ?_⟩) hHeld ?_ ?_
   rotate_left
   ·rintro w' ⟨s0, s1⟩
    go_simp
    with_reducible rfl
   rotate_left
   ·simp only [Act.put, List.setIfInBounds_toArray, List.set_cons_zero, List.set_cons_succ, i64_w, i32_w]
    rfl
   refine one_ (i := 2) (N := some 21) #[true, true, true, true, true, false, false, false] rfl rfl (one_of HT_.out (by kernel_rfl)) (by decide) (fun K hK => ?_)
   refine goes_ Try.func11 (by kernel_rfl) rfl #[.agg #[.slice Ao16 t399.length co16, .slice Ao18 t402.length co18], .slice Ao21 t406.length co21] (by rfl) rfl rfl s2_ ?_
   with_reducible refine (order_Sort.calls k _ _ t399 _ _ t402 _ _ t406 t409 _ ?side1 ?side2 ?side3 ?side4 ?side5 ?side6 A8.out).mono ?_
   (case side1 => repeat (first | exact (Kd.R_reads' HO401.out).2.2 | (with_reducible refine Kd.C_alloc ?_ _) | (with_reducible refine Kd.C_drewN ?_ _) | (with_reducible refine Kd.C_drew ?_)))
   (case side2 => exact (Kd.R_reads' HO401.out).2.1)
   (case side3 => repeat (first | exact (Kd.R_reads' HO404.out).2.2 | (with_reducible refine Kd.C_alloc ?_ _) | (with_reducible refine Kd.C_drewN ?_ _) | (with_reducible refine Kd.C_drew ?_)))
   (case side4 => exact (Kd.R_reads' HO404.out).2.1)
   (case side5 => repeat (first | exact (Kd.R_reads' HO408.out).2.2 | (with_reducible refine Kd.C_alloc ?_ _) | (with_reducible refine Kd.C_drewN ?_ _) | (with_reducible refine Kd.C_drew ?_)))
   (case side6 => exact (Kd.R_reads' HO408.out).2.1)
   rintro e w22 ⟨v410, rfl, ho0, hb⟩
   refine ⟨_, rfl, ?_⟩
   have n0_ := Aside0.mk (Kd.V_elder' (fA3 HO398) (Kd.R_base ho0) hb)
   have n1_ := Aside0.mk (Kd.R_below (fA0 HO401) hb)
   have n2_ := Aside0.mk (Kd.R_below (fA0 HO404) hb)
   have n3_ := Aside0.mk (Kd.R_elder' (fA0 HO408) (Kd.R_base ho0) hb)
   have n4_ := Aside0.mk (Kd.R_lower (Kd.R_new' ho0 (Kd.R_lt (fA0 HO408))) (below_size (fB1 GE405)))
   have n5_ := Aside0.mk (blk_below (g := gb405) (o := .cells #[.slice Ao16 t399.length co16, .slice Ao18 t402.length co18] 28 (0, 0)) (fA1 BK405) hb)
   have n6_ := Aside0.mk (below_step (fB1 GE405) hb)
   clear HO398
   clear HO401
   clear HO404
   clear HO408
   clear BK405
   clear HB
   have HO398 := n0_
   have HO401 := n1_
   have HO404 := n2_
   have HO408 := n3_
   have HO411 := n4_
   have BK405 := n5_
   have HB := n6_
   clear n0_ n1_ n2_ n3_ n4_ n5_ n6_
   (try clear hb)
   (try clear hb2)
   (try clear hk)
   (try clear hi)
   (try clear ho0)
   refine hK.out _ _ ⟨(blk_cell BK405.out 0).trans rfl, (blk_cell BK405.out 1).trans rfl⟩ (fun hHeld => ?_)
   clear hK K
   refine norm_ (a' := ?_) ?_ ?_
   rotate_left
   ·show Act.put _ (some 21) _ = _
    simp only [Act.put, List.setIfInBounds_toArray, List.set_cons_zero, List.set_cons_succ, i64_w, i32_w]
    rfl
   refine one_ (i := 5) (N := some 24) #[true, true, true, true, true, true, false, false] rfl rfl (one_of HT_.out (by kernel_rfl)) (by decide) (fun K hK => ?_)
   refine goes_ Try.func12 (by kernel_rfl) rfl #[.agg #[.slice Ao16 t399.length co16, .slice Ao18 t402.length co18], .slice Ao21 t406.length co21] (by rfl) rfl rfl s2_ ?_
   with_reducible refine (conciergeref15_Sort.calls k _ _ t399 _ _ t402 _ _ t406 t412 _ ?side1 ?side2 ?side3 ?side4 ?side5 ?side6 A9.out).mono ?_
   (case side1 => repeat (first | exact (Kd.R_reads' HO401.out).2.2 | (with_reducible refine Kd.C_alloc ?_ _) | (with_reducible refine Kd.C_drewN ?_ _) | (with_reducible refine Kd.C_drew ?_)))
   (case side2 => exact (Kd.R_reads' HO401.out).2.1)
   (case side3 => repeat (first | exact (Kd.R_reads' HO404.out).2.2 | (with_reducible refine Kd.C_alloc ?_ _) | (with_reducible refine Kd.C_drewN ?_ _) | (with_reducible refine Kd.C_drew ?_)))
   (case side4 => exact (Kd.R_reads' HO404.out).2.1)
   (case side5 => repeat (first | exact (Kd.R_reads' HO408.out).2.2 | (with_reducible refine Kd.C_alloc ?_ _) | (with_reducible refine Kd.C_drewN ?_ _) | (with_reducible refine Kd.C_drew ?_)))
   (case side6 => exact (Kd.R_reads' HO408.out).2.1)
   rintro e w23 ⟨v413, rfl, ho0, hb⟩
   refine ⟨_, rfl, ?_⟩
   have n0_ := Aside0.mk (Kd.V_elder' (fA3 HO398) (Kd.R_base ho0) hb)
   have n1_ := Aside0.mk (Kd.R_below (fA0 HO401) hb)
   have n2_ := Aside0.mk (Kd.R_below (fA0 HO404) hb)
   have n3_ := Aside0.mk (Kd.R_elder' (fA0 HO408) (Kd.R_base ho0) hb)
   have n4_ := Aside0.mk (Kd.R_elder' (fA0 HO411) (Kd.R_base ho0) hb)
   have n5_ := Aside0.mk (Kd.R_lower (Kd.R_new' (Kd.R_new' ho0 (Kd.R_lt (fA0 HO408))) (Kd.R_lt (fA0 HO411))) (below_size (fB1 GE405)))
   have n6_ := Aside0.mk (blk_below (g := gb405) (o := .cells #[.slice Ao16 t399.length co16, .slice Ao18 t402.length co18] 28 (0, 0)) (fA1 BK405) hb)
   have n7_ := Aside0.mk (below_step (fB1 GE405) hb)
   clear HO398
   clear HO401
   clear HO404
   clear HO408
   clear HO411
   clear BK405
   clear HB
   have HO398 := n0_
   have HO401 := n1_
   have HO404 := n2_
   have HO408 := n3_
   have HO411 := n4_
   have HO414 := n5_
   have BK405 := n6_
   have HB := n7_
   clear n0_ n1_ n2_ n3_ n4_ n5_ n6_ n7_
   (try clear hb)
   (try clear hb2)
   (try clear hk)
   (try clear hi)
   (try clear ho0)
   refine hK.out _ _ ⟨(blk_cell BK405.out 0).trans rfl, (blk_cell BK405.out 1).trans rfl⟩ (fun hHeld => ?_)
   clear hK K
   refine norm_ (a' := ?_) ?_ ?_
   rotate_left
   ·show Act.put _ (some 24) _ = _
    simp only [Act.put, List.setIfInBounds_toArray, List.set_cons_zero, List.set_cons_succ, i64_w, i32_w]
    rfl
   refine pure_ (i := 6) (N := some 8) (v := ?_) (a' := ?_) #[true, true, true, true, true, true, true, false] rfl rfl (any_of HT_.out (by kernel_rfl)) (fun _ _ _ h => h) (Or.inl ⟨by rfl, ?_⟩) ?_ ?_
   rotate_left
   ·intro w'
    go_simp
    with_reducible rfl
   rotate_left
   ·simp only [Act.put, List.setIfInBounds_toArray, List.set_cons_zero, List.set_cons_succ, i64_w, i32_w]
    rfl
   refine pure_ (i := 7) (N := some 9) (v := ?_) (a' := ?_) #[true, true, true, true, true, true, true, true] rfl rfl (any_of HT_.out (by kernel_rfl)) (fun _ _ _ h => h) (Or.inl ⟨by rfl, ?_⟩) ?_ ?_
   rotate_left
   ·intro w'
    go_simp
    with_reducible rfl
   rotate_left
   ·simp only [Act.put, List.setIfInBounds_toArray, List.set_cons_zero, List.set_cons_succ, i64_w, i32_w]
    rfl
   refine done_ (done_of HT_.out (by kernel_rfl)) ?_
   obtain ⟨Ao24, co24, eo24⟩ := Kd.R_slice HO411.out
   subst eo24
   obtain ⟨Ao25, co25, eo25⟩ := Kd.R_slice HO414.out
   subst eo25
   try go_wp2
   go_loopg [10] k (fun kq v10 w' => ∃ (x10_1 : Int), v10 = .int .i64 x10_1 ∧ Aside0 (conciergelaw20_OrderSort.l0 kq true t406 t409 t412 x10_1 t399 t402 = some r) ∧ Aside0 (kq ≤ k) ∧ Aside0 (Kd.R k34 34 w' w.heap.size (fun k_ => some k_ ≠ ((.slice Ao24 t409.length co24) : Value).ownBlock ∧ some k_ ≠ ((.slice Ao25 t412.length co25) : Value).ownBlock) (.slice Ao21 t406.length co21) t406) ∧ Aside0 (Kd.R k34 34 w' w.heap.size (fun k_ => some k_ ≠ ((.slice Ao21 t406.length co21) : Value).ownBlock ∧ some k_ ≠ ((.slice Ao25 t412.length co25) : Value).ownBlock) (.slice Ao24 t409.length co24) t409) ∧ Aside0 (Kd.R k34 34 w' w.heap.size (fun k_ => some k_ ≠ ((.slice Ao21 t406.length co21) : Value).ownBlock ∧ some k_ ≠ ((.slice Ao24 t409.length co24) : Value).ownBlock) (.slice Ao25 t412.length co25) t412) ∧ Aside0 (Kd.R k52 52 w' w.heap.size (fun _ => True) (.slice Ao16 t399.length co16) t399) ∧ Aside0 (Kd.R Kd.string 9 w' w.heap.size (fun _ => True) (.slice Ao18 t402.length co18) t402) ∧ Aside0 (w'.heap[gb405]? = some (.cells #[(.slice Ao16 t399.length co16), (.slice Ao18 t402.length co18)] 28 (0, 0))) ∧ Aside0 (Below w.heap.size w w'))
   case atStart => exact ⟨(0), s1_, H', ⟨Nat.le_refl _⟩, ⟨by (with_reducible repeat (first | apply Kd.R_alloc | apply Kd.R_drewN | apply Kd.R_drew)); exact Kd.R_mono HO408.out (fun _ hk => ⟨hk.1.2, hk.2⟩)⟩, ⟨by (with_reducible repeat (first | apply Kd.R_alloc | apply Kd.R_drewN | apply Kd.R_drew)); exact Kd.R_mono HO411.out (fun _ hk => ⟨hk.1.2, hk.2⟩)⟩, ⟨by (with_reducible repeat (first | apply Kd.R_alloc | apply Kd.R_drewN | apply Kd.R_drew)); exact Kd.R_mono HO414.out (fun _ hk => ⟨hk.1.2, hk.2⟩)⟩, ⟨(fA0 HO401)⟩, ⟨(fA0 HO404)⟩, ⟨(fA1 BK405)⟩, ⟨(fB1 GE405)⟩⟩
   case round =>
    clear H'
    try clear c1
    try clear p2
    try clear c3
    try clear c4
    try clear c7
    try clear c8
    try clear c9
    try clear c10
    try clear c10b0
    try clear c10b1
    try clear c10b2
    try clear c11
    try clear c12
    try clear hcz17_0
    try clear hcz17_1
    try clear hfz17_0
    try clear hfz17_1
    obtain ⟨x10_1, rfl, HA, HK1, HO_7, HO_8, HO_9, HO_406000, HO_406001, BK405, HB⟩ := hrel
    cases gk with
    | zero => exact absurd HA.out (by simp [conciergelaw20_OrderSort.l0])
    | succ k1 =>
     have H := HA.out
     clear HA
     simp only [conciergelaw20_OrderSort.l0] at H
     by_cases c26 : x10_1 < (t409.length : Int)
     ·rw [if_pos c26] at H
      have c26b0 : decide (x10_1 < (t409.length : Int)) = true := decide_eq_true c26
      clear c26
      have HC27 := Aside0.mk H
      clear H
      go_upto_region 12 with (fail)
      go_cut [59] (fun v59 wc => ∃ (kq : Nat) (x59_26 : Bool), v59 = .bool x59_26 ∧ Aside0 (conciergelaw20_OrderSort.j1 kq true t406 t409 t412 x10_1 x59_26 t399 t402 = some r) ∧ Aside0 (kq ≤ k1) ∧ Aside0 (Kd.R k34 34 wc w.heap.size (fun k_ => some k_ ≠ ((.slice Ao24 t409.length co24) : Value).ownBlock ∧ some k_ ≠ ((.slice Ao25 t412.length co25) : Value).ownBlock) (.slice Ao21 t406.length co21) t406) ∧ Aside0 (Kd.R k34 34 wc w.heap.size (fun k_ => some k_ ≠ ((.slice Ao21 t406.length co21) : Value).ownBlock ∧ some k_ ≠ ((.slice Ao25 t412.length co25) : Value).ownBlock) (.slice Ao24 t409.length co24) t409) ∧ Aside0 (Kd.R k34 34 wc w.heap.size (fun k_ => some k_ ≠ ((.slice Ao21 t406.length co21) : Value).ownBlock ∧ some k_ ≠ ((.slice Ao24 t409.length co24) : Value).ownBlock) (.slice Ao25 t412.length co25) t412) ∧ Aside0 (Kd.R k52 52 wc w.heap.size (fun _ => True) (.slice Ao16 t399.length co16) t399) ∧ Aside0 (Kd.R Kd.string 9 wc w.heap.size (fun _ => True) (.slice Ao18 t402.length co18) t402) ∧ Aside0 (wc.heap[gb405]? = some (.cells #[(.slice Ao16 t399.length co16), (.slice Ao18 t402.length co18)] 28 (0, 0))) ∧ Aside0 (Below w.heap.size w wc))
      case first =>
       have H := HC27.out
       clear HC27
       by_cases c28 : 0 ≤ x10_1
       ·rw [if_pos c28] at H
        have c28b0 : decide (0 ≤ x10_1) = true := decide_eq_true c28
        clear c28
        (first | rw [c28b0] | (simp only [i64_w, i32_w]; rw [c28b0]) | skip)
        by_cases c29 : x10_1 < (t412.length : Int)
        ·rw [if_pos c29] at H
         have c29b0 : decide (x10_1 < (t412.length : Int)) = true := decide_eq_true c29
         clear c29
         by_cases c30 : ((rd_T34 t409 x10_1).f0).toList = ((rd_T34 t412 x10_1).f0).toList
         ·rw [if_pos c30] at H
          have c30b0 : (((rd_T34 t409 x10_1).f0).toList == ((rd_T34 t412 x10_1).f0).toList) = true := beq_iff_eq.mpr c30
          have c30b1 : (((rd_T34 t409 x10_1).f0).toList != ((rd_T34 t412 x10_1).f0).toList) = false := bne_eq_false_iff_eq.mpr c30
          clear c30
          have H' := Aside0.mk H
          clear H
          try go_wp2
          have n0_ := Aside0.mk (Kd.R_drew HO_7.out)
          have n1_ := Aside0.mk (Kd.R_drew HO_8.out)
          have n2_ := Aside0.mk (Kd.R_drew HO_9.out)
          have n3_ := Aside0.mk (Kd.R_drew HO_406000.out)
          have n4_ := Aside0.mk (Kd.R_drew HO_406001.out)
          have n5_ := Aside0.mk (blk_drew BK405.out)
          have n6_ := Aside0.mk (below_drew1 HB.out)
          clear HO_7
          clear HO_8
          clear HO_9
          clear HO_406000
          clear HO_406001
          clear BK405
          clear HB
          have HO_7 := n0_
          have HO_8 := n1_
          have HO_9 := n2_
          have HO_406000 := n3_
          have HO_406001 := n4_
          have BK405 := n5_
          have HB := n6_
          clear n0_ n1_ n2_ n3_ n4_ n5_ n6_
          have p415 : 0 ≤ (x10_1 : Int) := of_decide_eq_true (by first | (with_reducible assumption) | assumption)
          have q415 : x10_1 < (t409.length : Int) := of_decide_eq_true (by first | (with_reducible assumption) | assumption)
          obtain ⟨ad415, e415, hx415_0, hx415_1⟩ := at_T34 (Kd.R_reads' HO_8.out).2.2 x10_1 p415 q415
          cases e415
          replace p415 := eq_true p415
          replace q415 := eq_true q415
          have p416 : 0 ≤ (x10_1 : Int) := of_decide_eq_true (by first | (with_reducible assumption) | assumption)
          have q416 : x10_1 < (t412.length : Int) := of_decide_eq_true (by first | (with_reducible assumption) | assumption)
          obtain ⟨ad416, e416, hx416_0, hx416_1⟩ := at_T34 (Kd.R_reads' HO_9.out).2.2 x10_1 p416 q416
          cases e416
          replace p416 := eq_true p416
          replace q416 := eq_true q416
          have p417 : 0 ≤ (x10_1 : Int) := of_decide_eq_true (by first | (with_reducible assumption) | assumption)
          have q417 : x10_1 < (t409.length : Int) := of_decide_eq_true (by first | (with_reducible assumption) | assumption)
          obtain ⟨ad417, e417, hx417_0, hx417_1⟩ := at_T34 (Kd.R_reads' HO_8.out).2.2 x10_1 p417 q417
          obtain rfl : ad415 = ad417 := (by injection e417)
          replace p417 := eq_true p417
          replace q417 := eq_true q417
          have p418 : 0 ≤ (x10_1 : Int) := of_decide_eq_true (by first | (with_reducible assumption) | assumption)
          have q418 : x10_1 < (t412.length : Int) := of_decide_eq_true (by first | (with_reducible assumption) | assumption)
          obtain ⟨ad418, e418, hx418_0, hx418_1⟩ := at_T34 (Kd.R_reads' HO_9.out).2.2 x10_1 p418 q418
          obtain rfl : ad416 = ad418 := (by injection e418)
          replace p418 := eq_true p418
          replace q418 := eq_true q418
          refine start_ (n := 24) (S := fun w' => w'.cell? (ad415.add ((x10_1).toNat * 2)) = some (.string ((rd_T34 t409 x10_1).f0)) ∧ w'.cell? ⟨(ad415.add ((x10_1).toNat * 2)).block, (ad415.add ((x10_1).toNat * 2)).off + 1, none⟩ = some (.string ((rd_T34 t409 x10_1).f1)) ∧ w'.cell? (ad416.add ((x10_1).toNat * 2)) = some (.string ((rd_T34 t412 x10_1).f0)) ∧ w'.cell? ⟨(ad416.add ((x10_1).toNat * 2)).block, (ad416.add ((x10_1).toNat * 2)).off + 1, none⟩ = some (.string ((rd_T34 t412 x10_1).f1)) ∧ w'.cell? (ad415.add ((x10_1).toNat * 2)) = some (.string ((rd_T34 t409 x10_1).f0)) ∧ w'.cell? ⟨(ad415.add ((x10_1).toNat * 2)).block, (ad415.add ((x10_1).toNat * 2)).off + 1, none⟩ = some (.string ((rd_T34 t409 x10_1).f1)) ∧ w'.cell? (ad416.add ((x10_1).toNat * 2)) = some (.string ((rd_T34 t412 x10_1).f0)) ∧ w'.cell? ⟨(ad416.add ((x10_1).toNat * 2)).block, (ad416.add ((x10_1).toNat * 2)).off + 1, none⟩ = some (.string ((rd_T34 t412 x10_1).f1))) (ds := []) #[false, false, false, false, false, false, false, false, false, false, false, false, false, false, false, false, false, false, false, false, false, false, false, false] (by kernel_rfl) rfl rfl ⟨hx415_0, hx415_1, hx416_0, hx416_1, hx417_0, hx417_1, hx418_0, hx418_1⟩ (fun hHeld => ?_); refine with_tabW conciergelaw20_OrderSort.tab12 conciergelaw20_OrderSort.bits12 (fun HT_ HW_ => ?_)
          generalize wr.drew = w31 at HO_7 HO_8 HO_9 HO_406000 HO_406001 BK405 HB hx415_0 hx415_1 hx416_0 hx416_1 hx417_0 hx417_1 hx418_0 hx418_1 hHeld ⊢
          refine pure_ (i := 0) (N := some 36) (v := ?_) (a' := ?_) #[true, false, false, false, false, false, false, false, false, false, false, false, false, false, false, false, false, false, false, false, false, false, false, false] rfl rfl (any_of HT_.out (by kernel_rfl)) (fun _ _ _ h => h) (Or.inl ⟨by rfl, ?_⟩) ?_ ?_
          rotate_left
          ·intro w'
           go_simp
           with_reducible rfl
          rotate_left
          ·simp only [Act.put, List.setIfInBounds_toArray, List.set_cons_zero, List.set_cons_succ, i64_w, i32_w]
           rfl
          refine pure_ (i := 1) (N := some 37) (v := ?_) (a' := ?_) #[true, true, false, false, false, false, false, false, false, false, false, false, false, false, false, false, false, false, false, false, false, false, false, false] rfl rfl (any_of HT_.out (by kernel_rfl)) (fun _ _ _ h => h) (Or.inl ⟨by rfl, ?_⟩) ?_ ?_
          rotate_left
          ·intro w'
           go_simp
           with_reducible rfl
          rotate_left
          ·simp only [Act.put, List.setIfInBounds_toArray, List.set_cons_zero, List.set_cons_succ, i64_w, i32_w]
           rfl
          refine pure_ (i := 2) (N := some 38) (v := ?_) (a' := ?_) #[true, true, true, false, false, false, false, false, false, false, false, false, false, false, false, false, false, false, false, false, false, false, false, false] rfl rfl (any_of HT_.out (by kernel_rfl)) (fun _ _ _ h => h) (Or.inl ⟨by rfl, ?_⟩) ?_ ?_
          rotate_left
          ·intro w'
           go_simp
           with_reducible rfl
          rotate_left
          ·simp only [Act.put, List.setIfInBounds_toArray, List.set_cons_zero, List.set_cons_succ, i64_w, i32_w]
           rfl
          refine pure_ (i := 3) (N := some 39) (v := ?_) (a' := ?_) #[true, true, true, true, false, false, false, false, false, false, false, false, false, false, false, false, false, false, false, false, false, false, false, false] rfl rfl (any_of HT_.out (by kernel_rfl)) (fun _ _ _ h => h) (Or.inl ⟨by rfl, ?_⟩) ?_ ?_
          rotate_left
          ·intro w'
           go_simp
           with_reducible rfl
          rotate_left
          ·simp only [Act.put, List.setIfInBounds_toArray, List.set_cons_zero, List.set_cons_succ, i64_w, i32_w]
           rfl
          refine pure_ (i := 5) (N := some 41) (v := ?_) (a' := ?_) #[true, true, true, true, false, true, false, false, false, false, false, false, false, false, false, false, false, false, false, false, false, false, false, false] rfl rfl (any_of HT_.out (by kernel_rfl)) (fun _ _ _ h => h) (Or.inl ⟨by rfl, ?_⟩) ?_ ?_
          rotate_left
          ·intro w'
           go_simp
           with_reducible rfl
          rotate_left
          ·simp only [Act.put, List.setIfInBounds_toArray, List.set_cons_zero, List.set_cons_succ, i64_w, i32_w]
           rfl
          refine pure_ (i := 6) (N := some 42) (v := ?_) (a' := ?_) #[true, true, true, true, false, true, true, false, false, false, false, false, false, false, false, false, false, false, false, false, false, false, false, false] rfl rfl (any_of HT_.out (by kernel_rfl)) (fun _ _ _ h => h) (Or.inl ⟨by rfl, ?_⟩) ?_ ?_
          rotate_left
          ·intro w'
           go_simp
           with_reducible rfl
          rotate_left
          ·simp only [Act.put, List.setIfInBounds_toArray, List.set_cons_zero, List.set_cons_succ, i64_w, i32_w]
           rfl
          refine pure_ (i := 7) (N := some 43) (v := ?_) (a' := ?_) #[true, true, true, true, false, true, true, true, false, false, false, false, false, false, false, false, false, false, false, false, false, false, false, false] rfl rfl (any_of HT_.out (by kernel_rfl)) (fun _ _ _ h => h) (Or.inl ⟨by rfl, ?_⟩) ?_ ?_
          rotate_left
          ·intro w'
           go_simp
           with_reducible rfl
          rotate_left
          ·simp only [Act.put, List.setIfInBounds_toArray, List.set_cons_zero, List.set_cons_succ, i64_w, i32_w]
           rfl
          refine pure_ (i := 8) (N := some 44) (v := ?_) (a' := ?_) #[true, true, true, true, false, true, true, true, true, false, false, false, false, false, false, false, false, false, false, false, false, false, false, false] rfl rfl (any_of HT_.out (by kernel_rfl)) (fun _ _ _ h => h) (Or.inl ⟨by rfl, ?_⟩) ?_ ?_
          rotate_left
          ·intro w'
           go_simp
           with_reducible rfl
          rotate_left
          ·simp only [Act.put, List.setIfInBounds_toArray, List.set_cons_zero, List.set_cons_succ, i64_w, i32_w]
           rfl
          refine take_ (i := 4) (N := some 40) (v := ?_) (a' := ?_) #[true, true, true, true, true, true, true, true, true, false, false, false, false, false, false, false, false, false, false, false, false, false, false, false] rfl rfl (take_ofW HT_.out HW_.out (by kernel_rfl)) (fun _ _ _ h => h) (Or.inl ⟨by rfl, ?_⟩) hHeld ?_ ?_
          rotate_left
          ·rintro w' ⟨s0, s1, s2, s3, s4, s5, s6, s7⟩
           go_simp
           with_reducible rfl
          rotate_left
          ·simp only [Act.put, List.setIfInBounds_toArray, List.set_cons_zero, List.set_cons_succ, i64_w, i32_w]
           rfl
          refine take_ (i := 9) (N := some 45) (v := ?_) (a' := ?_) #[true, true, true, true, true, true, true, true, true, true, false, false, false, false, false, false, false, false, false, false, false, false, false, false] rfl rfl (take_ofW HT_.out HW_.out (by kernel_rfl)) (fun _ _ _ h => h) (Or.inl ⟨by rfl, ?_⟩) hHeld ?_ ?_
          rotate_left
          ·rintro w' ⟨s0, s1, s2, s3, s4, s5, s6, s7⟩
           go_simp
           with_reducible rfl
          rotate_left
          ·simp only [Act.put, List.setIfInBounds_toArray, List.set_cons_zero, List.set_cons_succ, i64_w, i32_w]
           rfl
          refine pure_ (i := 10) (N := some 46) (v := ?_) (a' := ?_) #[true, true, true, true, true, true, true, true, true, true, true, false, false, false, false, false, false, false, false, false, false, false, false, false] rfl rfl (any_of HT_.out (by kernel_rfl)) (fun _ _ _ h => h) (Or.inl ⟨by rfl, ?_⟩) ?_ ?_
          rotate_left
          ·intro w'
           go_simp
           with_reducible rfl
          rotate_left
          ·simp only [Act.put, List.setIfInBounds_toArray, List.set_cons_zero, List.set_cons_succ, i64_w, i32_w]
           rfl
          refine pure_ (i := 11) (N := some 47) (v := ?_) (a' := ?_) #[true, true, true, true, true, true, true, true, true, true, true, true, false, false, false, false, false, false, false, false, false, false, false, false] rfl rfl (any_of HT_.out (by kernel_rfl)) (fun _ _ _ h => h) (Or.inl ⟨by rfl, ?_⟩) ?_ ?_
          rotate_left
          ·intro w'
           go_simp
           with_reducible rfl
          rotate_left
          ·simp only [Act.put, List.setIfInBounds_toArray, List.set_cons_zero, List.set_cons_succ, i64_w, i32_w]
           rfl
          refine pure_ (i := 12) (N := some 48) (v := ?_) (a' := ?_) #[true, true, true, true, true, true, true, true, true, true, true, true, true, false, false, false, false, false, false, false, false, false, false, false] rfl rfl (any_of HT_.out (by kernel_rfl)) (fun _ _ _ h => h) (Or.inl ⟨by rfl, ?_⟩) ?_ ?_
          rotate_left
          ·intro w'
           go_simp
           with_reducible rfl
          rotate_left
          ·simp only [Act.put, List.setIfInBounds_toArray, List.set_cons_zero, List.set_cons_succ, i64_w, i32_w]
           rfl
          refine pure_ (i := 13) (N := some 49) (v := ?_) (a' := ?_) #[true, true, true, true, true, true, true, true, true, true, true, true, true, true, false, false, false, false, false, false, false, false, false, false] rfl rfl (any_of HT_.out (by kernel_rfl)) (fun _ _ _ h => h) (Or.inl ⟨by rfl, ?_⟩) ?_ ?_
          rotate_left
          ·intro w'
           go_simp
           with_reducible rfl
          rotate_left
          ·simp only [Act.put, List.setIfInBounds_toArray, List.set_cons_zero, List.set_cons_succ, i64_w, i32_w]
           rfl
          refine pure_ (i := 14) (N := some 50) (v := ?_) (a' := ?_) #[true, true, true, true, true, true, true, true, true, true, true, true, true, true, true, false, false, false, false, false, false, false, false, false] rfl rfl (any_of HT_.out (by kernel_rfl)) (fun _ _ _ h => h) (Or.inl ⟨by rfl, ?_⟩) ?_ ?_
          rotate_left
          ·intro w'
           go_simp
           with_reducible rfl
          rotate_left
          ·simp only [Act.put, List.setIfInBounds_toArray, List.set_cons_zero, List.set_cons_succ, i64_w, i32_w]
           rfl
          refine pure_ (i := 15) (N := some 51) (v := ?_) (a' := ?_) #[true, true, true, true, true, true, true, true, true, true, true, true, true, true, true, true, false, false, false, false, false, false, false, false] rfl rfl (any_of HT_.out (by kernel_rfl)) (fun _ _ _ h => h) (Or.inl ⟨by rfl, ?_⟩) ?_ ?_
          rotate_left
          ·intro w'
           go_simp
           with_reducible rfl
          rotate_left
          ·simp only [Act.put, List.setIfInBounds_toArray, List.set_cons_zero, List.set_cons_succ, i64_w, i32_w]
           rfl
          refine pure_ (i := 17) (N := some 53) (v := ?_) (a' := ?_) #[true, true, true, true, true, true, true, true, true, true, true, true, true, true, true, true, false, true, false, false, false, false, false, false] rfl rfl (any_of HT_.out (by kernel_rfl)) (fun _ _ _ h => h) (Or.inl ⟨by rfl, ?_⟩) ?_ ?_
          rotate_left
          ·intro w'
           go_simp
           with_reducible rfl
          rotate_left
          ·simp only [Act.put, List.setIfInBounds_toArray, List.set_cons_zero, List.set_cons_succ, i64_w, i32_w]
           rfl
          refine pure_ (i := 18) (N := some 54) (v := ?_) (a' := ?_) #[true, true, true, true, true, true, true, true, true, true, true, true, true, true, true, true, false, true, true, false, false, false, false, false] rfl rfl (any_of HT_.out (by kernel_rfl)) (fun _ _ _ h => h) (Or.inl ⟨by rfl, ?_⟩) ?_ ?_
          rotate_left
          ·intro w'
           go_simp
           with_reducible rfl
          rotate_left
          ·simp only [Act.put, List.setIfInBounds_toArray, List.set_cons_zero, List.set_cons_succ, i64_w, i32_w]
           rfl
          refine pure_ (i := 19) (N := some 55) (v := ?_) (a' := ?_) #[true, true, true, true, true, true, true, true, true, true, true, true, true, true, true, true, false, true, true, true, false, false, false, false] rfl rfl (any_of HT_.out (by kernel_rfl)) (fun _ _ _ h => h) (Or.inl ⟨by rfl, ?_⟩) ?_ ?_
          rotate_left
          ·intro w'
           go_simp
           with_reducible rfl
          rotate_left
          ·simp only [Act.put, List.setIfInBounds_toArray, List.set_cons_zero, List.set_cons_succ, i64_w, i32_w]
           rfl
          refine pure_ (i := 20) (N := some 56) (v := ?_) (a' := ?_) #[true, true, true, true, true, true, true, true, true, true, true, true, true, true, true, true, false, true, true, true, true, false, false, false] rfl rfl (any_of HT_.out (by kernel_rfl)) (fun _ _ _ h => h) (Or.inl ⟨by rfl, ?_⟩) ?_ ?_
          rotate_left
          ·intro w'
           go_simp
           with_reducible rfl
          rotate_left
          ·simp only [Act.put, List.setIfInBounds_toArray, List.set_cons_zero, List.set_cons_succ, i64_w, i32_w]
           rfl
          refine take_ (i := 16) (N := some 52) (v := ?_) (a' := ?_) #[true, true, true, true, true, true, true, true, true, true, true, true, true, true, true, true, true, true, true, true, true, false, false, false] rfl rfl (take_ofW HT_.out HW_.out (by kernel_rfl)) (fun _ _ _ h => h) (Or.inl ⟨by rfl, ?_⟩) hHeld ?_ ?_
          rotate_left
          ·rintro w' ⟨s0, s1, s2, s3, s4, s5, s6, s7⟩
           go_simp
           with_reducible rfl
          rotate_left
          ·simp only [Act.put, List.setIfInBounds_toArray, List.set_cons_zero, List.set_cons_succ, i64_w, i32_w]
           rfl
          refine take_ (i := 21) (N := some 57) (v := ?_) (a' := ?_) #[true, true, true, true, true, true, true, true, true, true, true, true, true, true, true, true, true, true, true, true, true, true, false, false] rfl rfl (take_ofW HT_.out HW_.out (by kernel_rfl)) (fun _ _ _ h => h) (Or.inl ⟨by rfl, ?_⟩) hHeld ?_ ?_
          rotate_left
          ·rintro w' ⟨s0, s1, s2, s3, s4, s5, s6, s7⟩
           go_simp
           with_reducible rfl
          rotate_left
          ·simp only [Act.put, List.setIfInBounds_toArray, List.set_cons_zero, List.set_cons_succ, i64_w, i32_w]
           rfl
          refine pure_ (i := 22) (N := some 58) (v := ?_) (a' := ?_) #[true, true, true, true, true, true, true, true, true, true, true, true, true, true, true, true, true, true, true, true, true, true, true, false] rfl rfl (any_of HT_.out (by kernel_rfl)) (fun _ _ _ h => h) (Or.inl ⟨by rfl, ?_⟩) ?_ ?_
          rotate_left
          ·intro w'
           go_simp
           with_reducible rfl
          rotate_left
          ·simp only [Act.put, List.setIfInBounds_toArray, List.set_cons_zero, List.set_cons_succ, i64_w, i32_w]
           rfl
          refine pure_ (i := 23) (N := some 59) (v := ?_) (a' := ?_) #[true, true, true, true, true, true, true, true, true, true, true, true, true, true, true, true, true, true, true, true, true, true, true, true] rfl rfl (any_of HT_.out (by kernel_rfl)) (fun _ _ _ h => h) (Or.inl ⟨by rfl, ?_⟩) ?_ ?_
          rotate_left
          ·intro w'
           go_simp
           with_reducible rfl
          rotate_left
          ·simp only [Act.put, List.setIfInBounds_toArray, List.set_cons_zero, List.set_cons_succ, i64_w, i32_w]
           rfl
          refine done_ (done_of HT_.out (by kernel_rfl)) ?_
          try go_wp2
          go_meet
          case rel => exact ⟨_, ((((rd_T34 t409 x10_1).f1).toList != ((rd_T34 t412 x10_1).f1).toList)), s1_, H', ⟨by have := HK1.out; first | omega | exact Nat.le_refl _⟩, ⟨(fA0 HO_7)⟩, ⟨(fA0 HO_8)⟩, ⟨(fA0 HO_9)⟩, ⟨(fA0 HO_406000)⟩, ⟨(fA0 HO_406001)⟩, ⟨(fA1 BK405)⟩, ⟨(fB1 GE405)⟩⟩
         ·rw [if_neg c30] at H
          have c30b0 : (((rd_T34 t409 x10_1).f0).toList == ((rd_T34 t412 x10_1).f0).toList) = false := beq_eq_false_iff_ne.mpr c30
          have c30b1 : (((rd_T34 t409 x10_1).f0).toList != ((rd_T34 t412 x10_1).f0).toList) = true := bne_iff_ne.mpr c30
          have H' := Aside0.mk H
          clear H
          try go_wp2
          have n0_ := Aside0.mk (Kd.R_drew HO_7.out)
          have n1_ := Aside0.mk (Kd.R_drew HO_8.out)
          have n2_ := Aside0.mk (Kd.R_drew HO_9.out)
          have n3_ := Aside0.mk (Kd.R_drew HO_406000.out)
          have n4_ := Aside0.mk (Kd.R_drew HO_406001.out)
          have n5_ := Aside0.mk (blk_drew BK405.out)
          have n6_ := Aside0.mk (below_drew1 HB.out)
          clear HO_7
          clear HO_8
          clear HO_9
          clear HO_406000
          clear HO_406001
          clear BK405
          clear HB
          have HO_7 := n0_
          have HO_8 := n1_
          have HO_9 := n2_
          have HO_406000 := n3_
          have HO_406001 := n4_
          have BK405 := n5_
          have HB := n6_
          clear n0_ n1_ n2_ n3_ n4_ n5_ n6_
          have p415 : 0 ≤ (x10_1 : Int) := of_decide_eq_true (by first | (with_reducible assumption) | assumption)
          have q415 : x10_1 < (t409.length : Int) := of_decide_eq_true (by first | (with_reducible assumption) | assumption)
          obtain ⟨ad415, e415, hx415_0, hx415_1⟩ := at_T34 (Kd.R_reads' HO_8.out).2.2 x10_1 p415 q415
          cases e415
          replace p415 := eq_true p415
          replace q415 := eq_true q415
          have p416 : 0 ≤ (x10_1 : Int) := of_decide_eq_true (by first | (with_reducible assumption) | assumption)
          have q416 : x10_1 < (t412.length : Int) := of_decide_eq_true (by first | (with_reducible assumption) | assumption)
          obtain ⟨ad416, e416, hx416_0, hx416_1⟩ := at_T34 (Kd.R_reads' HO_9.out).2.2 x10_1 p416 q416
          cases e416
          replace p416 := eq_true p416
          replace q416 := eq_true q416
          refine start_ (n := 24) (S := fun w' => w'.cell? (ad415.add ((x10_1).toNat * 2)) = some (.string ((rd_T34 t409 x10_1).f0)) ∧ w'.cell? ⟨(ad415.add ((x10_1).toNat * 2)).block, (ad415.add ((x10_1).toNat * 2)).off + 1, none⟩ = some (.string ((rd_T34 t409 x10_1).f1)) ∧ w'.cell? (ad416.add ((x10_1).toNat * 2)) = some (.string ((rd_T34 t412 x10_1).f0)) ∧ w'.cell? ⟨(ad416.add ((x10_1).toNat * 2)).block, (ad416.add ((x10_1).toNat * 2)).off + 1, none⟩ = some (.string ((rd_T34 t412 x10_1).f1))) (ds := []) #[false, false, false, false, false, false, false, false, false, false, false, false, false, false, false, false, false, false, false, false, false, false, false, false] (by kernel_rfl) rfl rfl ⟨hx415_0, hx415_1, hx416_0, hx416_1⟩ (fun hHeld => ?_); refine with_tabW conciergelaw20_OrderSort.tab12 conciergelaw20_OrderSort.bits12 (fun HT_ HW_ => ?_)
          generalize wr.drew = w32 at HO_7 HO_8 HO_9 HO_406000 HO_406001 BK405 HB hx415_0 hx415_1 hx416_0 hx416_1 hHeld ⊢
          refine pure_ (i := 0) (N := some 36) (v := ?_) (a' := ?_) #[true, false, false, false, false, false, false, false, false, false, false, false, false, false, false, false, false, false, false, false, false, false, false, false] rfl rfl (any_of HT_.out (by kernel_rfl)) (fun _ _ _ h => h) (Or.inl ⟨by rfl, ?_⟩) ?_ ?_
          rotate_left
          ·intro w'
           go_simp
           with_reducible rfl
          rotate_left
          ·simp only [Act.put, List.setIfInBounds_toArray, List.set_cons_zero, List.set_cons_succ, i64_w, i32_w]
           rfl
          refine pure_ (i := 1) (N := some 37) (v := ?_) (a' := ?_) #[true, true, false, false, false, false, false, false, false, false, false, false, false, false, false, false, false, false, false, false, false, false, false, false] rfl rfl (any_of HT_.out (by kernel_rfl)) (fun _ _ _ h => h) (Or.inl ⟨by rfl, ?_⟩) ?_ ?_
          rotate_left
          ·intro w'
           go_simp
           with_reducible rfl
          rotate_left
          ·simp only [Act.put, List.setIfInBounds_toArray, List.set_cons_zero, List.set_cons_succ, i64_w, i32_w]
           rfl
          refine pure_ (i := 2) (N := some 38) (v := ?_) (a' := ?_) #[true, true, true, false, false, false, false, false, false, false, false, false, false, false, false, false, false, false, false, false, false, false, false, false] rfl rfl (any_of HT_.out (by kernel_rfl)) (fun _ _ _ h => h) (Or.inl ⟨by rfl, ?_⟩) ?_ ?_
          rotate_left
          ·intro w'
           go_simp
           with_reducible rfl
          rotate_left
          ·simp only [Act.put, List.setIfInBounds_toArray, List.set_cons_zero, List.set_cons_succ, i64_w, i32_w]
           rfl
          refine pure_ (i := 3) (N := some 39) (v := ?_) (a' := ?_) #[true, true, true, true, false, false, false, false, false, false, false, false, false, false, false, false, false, false, false, false, false, false, false, false] rfl rfl (any_of HT_.out (by kernel_rfl)) (fun _ _ _ h => h) (Or.inl ⟨by rfl, ?_⟩) ?_ ?_
          rotate_left
          ·intro w'
           go_simp
           with_reducible rfl
          rotate_left
          ·simp only [Act.put, List.setIfInBounds_toArray, List.set_cons_zero, List.set_cons_succ, i64_w, i32_w]
           rfl
          refine pure_ (i := 5) (N := some 41) (v := ?_) (a' := ?_) #[true, true, true, true, false, true, false, false, false, false, false, false, false, false, false, false, false, false, false, false, false, false, false, false] rfl rfl (any_of HT_.out (by kernel_rfl)) (fun _ _ _ h => h) (Or.inl ⟨by rfl, ?_⟩) ?_ ?_
          rotate_left
          ·intro w'
           go_simp
           with_reducible rfl
          rotate_left
          ·simp only [Act.put, List.setIfInBounds_toArray, List.set_cons_zero, List.set_cons_succ, i64_w, i32_w]
           rfl
          refine pure_ (i := 6) (N := some 42) (v := ?_) (a' := ?_) #[true, true, true, true, false, true, true, false, false, false, false, false, false, false, false, false, false, false, false, false, false, false, false, false] rfl rfl (any_of HT_.out (by kernel_rfl)) (fun _ _ _ h => h) (Or.inl ⟨by rfl, ?_⟩) ?_ ?_
          rotate_left
          ·intro w'
           go_simp
           with_reducible rfl
          rotate_left
          ·simp only [Act.put, List.setIfInBounds_toArray, List.set_cons_zero, List.set_cons_succ, i64_w, i32_w]
           rfl
          refine pure_ (i := 7) (N := some 43) (v := ?_) (a' := ?_) #[true, true, true, true, false, true, true, true, false, false, false, false, false, false, false, false, false, false, false, false, false, false, false, false] rfl rfl (any_of HT_.out (by kernel_rfl)) (fun _ _ _ h => h) (Or.inl ⟨by rfl, ?_⟩) ?_ ?_
          rotate_left
          ·intro w'
           go_simp
           with_reducible rfl
          rotate_left
          ·simp only [Act.put, List.setIfInBounds_toArray, List.set_cons_zero, List.set_cons_succ, i64_w, i32_w]
           rfl
          refine pure_ (i := 8) (N := some 44) (v := ?_) (a' := ?_) #[true, true, true, true, false, true, true, true, true, false, false, false, false, false, false, false, false, false, false, false, false, false, false, false] rfl rfl (any_of HT_.out (by kernel_rfl)) (fun _ _ _ h => h) (Or.inl ⟨by rfl, ?_⟩) ?_ ?_
          rotate_left
          ·intro w'
           go_simp
           with_reducible rfl
          rotate_left
          ·simp only [Act.put, List.setIfInBounds_toArray, List.set_cons_zero, List.set_cons_succ, i64_w, i32_w]
           rfl
          refine take_ (i := 4) (N := some 40) (v := ?_) (a' := ?_) #[true, true, true, true, true, true, true, true, true, false, false, false, false, false, false, false, false, false, false, false, false, false, false, false] rfl rfl (take_ofW HT_.out HW_.out (by kernel_rfl)) (fun _ _ _ h => h) (Or.inl ⟨by rfl, ?_⟩) hHeld ?_ ?_
          rotate_left
          ·rintro w' ⟨s0, s1, s2, s3⟩
           go_simp
           with_reducible rfl
          rotate_left
          ·simp only [Act.put, List.setIfInBounds_toArray, List.set_cons_zero, List.set_cons_succ, i64_w, i32_w]
           rfl
          refine take_ (i := 9) (N := some 45) (v := ?_) (a' := ?_) #[true, true, true, true, true, true, true, true, true, true, false, false, false, false, false, false, false, false, false, false, false, false, false, false] rfl rfl (take_ofW HT_.out HW_.out (by kernel_rfl)) (fun _ _ _ h => h) (Or.inl ⟨by rfl, ?_⟩) hHeld ?_ ?_
          rotate_left
          ·rintro w' ⟨s0, s1, s2, s3⟩
           go_simp
           with_reducible rfl
          rotate_left
          ·simp only [Act.put, List.setIfInBounds_toArray, List.set_cons_zero, List.set_cons_succ, i64_w, i32_w]
           rfl
          refine pure_ (i := 10) (N := some 46) (v := ?_) (a' := ?_) #[true, true, true, true, true, true, true, true, true, true, true, false, false, false, false, false, false, false, false, false, false, false, false, false] rfl rfl (any_of HT_.out (by kernel_rfl)) (fun _ _ _ h => h) (Or.inl ⟨by rfl, ?_⟩) ?_ ?_
          rotate_left
          ·intro w'
           go_simp
           with_reducible rfl
          rotate_left
          ·simp only [Act.put, List.setIfInBounds_toArray, List.set_cons_zero, List.set_cons_succ, i64_w, i32_w]
           rfl
          refine pure_ (i := 11) (N := some 47) (v := ?_) (a' := ?_) #[true, true, true, true, true, true, true, true, true, true, true, true, false, false, false, false, false, false, false, false, false, false, false, false] rfl rfl (any_of HT_.out (by kernel_rfl)) (fun _ _ _ h => h) (Or.inl ⟨by rfl, ?_⟩) ?_ ?_
          rotate_left
          ·intro w'
           go_simp
           with_reducible rfl
          rotate_left
          ·simp only [Act.put, List.setIfInBounds_toArray, List.set_cons_zero, List.set_cons_succ, i64_w, i32_w]
           rfl
          refine pure_ (i := 12) (N := some 48) (v := undef) (a' := ?_) #[true, true, true, true, true, true, true, true, true, true, true, true, true, false, false, false, false, false, false, false, false, false, false, false] rfl rfl (any_of HT_.out (by kernel_rfl)) (fun _ _ _ h => h) (Or.inr ⟨by rfl, rfl⟩) ?_ ?_
          rotate_left
          ·simp only [Act.put, List.setIfInBounds_toArray, List.set_cons_zero, List.set_cons_succ, i64_w, i32_w]
           rfl
          refine pure_ (i := 13) (N := some 49) (v := undef) (a' := ?_) #[true, true, true, true, true, true, true, true, true, true, true, true, true, true, false, false, false, false, false, false, false, false, false, false] rfl rfl (any_of HT_.out (by kernel_rfl)) (fun _ _ _ h => h) (Or.inr ⟨by rfl, rfl⟩) ?_ ?_
          rotate_left
          ·simp only [Act.put, List.setIfInBounds_toArray, List.set_cons_zero, List.set_cons_succ, i64_w, i32_w]
           rfl
          refine pure_ (i := 14) (N := some 50) (v := undef) (a' := ?_) #[true, true, true, true, true, true, true, true, true, true, true, true, true, true, true, false, false, false, false, false, false, false, false, false] rfl rfl (any_of HT_.out (by kernel_rfl)) (fun _ _ _ h => h) (Or.inr ⟨by rfl, rfl⟩) ?_ ?_
          rotate_left
          ·simp only [Act.put, List.setIfInBounds_toArray, List.set_cons_zero, List.set_cons_succ, i64_w, i32_w]
           rfl
          refine pure_ (i := 15) (N := some 51) (v := undef) (a' := ?_) #[true, true, true, true, true, true, true, true, true, true, true, true, true, true, true, true, false, false, false, false, false, false, false, false] rfl rfl (any_of HT_.out (by kernel_rfl)) (fun _ _ _ h => h) (Or.inr ⟨by rfl, rfl⟩) ?_ ?_
          rotate_left
          ·simp only [Act.put, List.setIfInBounds_toArray, List.set_cons_zero, List.set_cons_succ, i64_w, i32_w]
           rfl
          refine pure_ (i := 16) (N := some 52) (v := undef) (a' := ?_) #[true, true, true, true, true, true, true, true, true, true, true, true, true, true, true, true, true, false, false, false, false, false, false, false] rfl rfl (any_of HT_.out (by kernel_rfl)) (fun _ _ _ h => h) (Or.inr ⟨by rfl, rfl⟩) ?_ ?_
          rotate_left
          ·simp only [Act.put, List.setIfInBounds_toArray, List.set_cons_zero, List.set_cons_succ, i64_w, i32_w]
           rfl
          refine pure_ (i := 17) (N := some 53) (v := undef) (a' := ?_) #[true, true, true, true, true, true, true, true, true, true, true, true, true, true, true, true, true, true, false, false, false, false, false, false] rfl rfl (any_of HT_.out (by kernel_rfl)) (fun _ _ _ h => h) (Or.inr ⟨by rfl, rfl⟩) ?_ ?_
          rotate_left
          ·simp only [Act.put, List.setIfInBounds_toArray, List.set_cons_zero, List.set_cons_succ, i64_w, i32_w]
           rfl
          refine pure_ (i := 18) (N := some 54) (v := undef) (a' := ?_) #[true, true, true, true, true, true, true, true, true, true, true, true, true, true, true, true, true, true, true, false, false, false, false, false] rfl rfl (any_of HT_.out (by kernel_rfl)) (fun _ _ _ h => h) (Or.inr ⟨by rfl, rfl⟩) ?_ ?_
          rotate_left
          ·simp only [Act.put, List.setIfInBounds_toArray, List.set_cons_zero, List.set_cons_succ, i64_w, i32_w]
           rfl
          refine pure_ (i := 19) (N := some 55) (v := undef) (a' := ?_) #[true, true, true, true, true, true, true, true, true, true, true, true, true, true, true, true, true, true, true, true, false, false, false, false] rfl rfl (any_of HT_.out (by kernel_rfl)) (fun _ _ _ h => h) (Or.inr ⟨by rfl, rfl⟩) ?_ ?_
          rotate_left
          ·simp only [Act.put, List.setIfInBounds_toArray, List.set_cons_zero, List.set_cons_succ, i64_w, i32_w]
           rfl
          refine pure_ (i := 20) (N := some 56) (v := undef) (a' := ?_) #[true, true, true, true, true, true, true, true, true, true, true, true, true, true, true, true, true, true, true, true, true, false, false, false] rfl rfl (any_of HT_.out (by kernel_rfl)) (fun _ _ _ h => h) (Or.inr ⟨by rfl, rfl⟩) ?_ ?_
          rotate_left
          ·simp only [Act.put, List.setIfInBounds_toArray, List.set_cons_zero, List.set_cons_succ, i64_w, i32_w]
           rfl
          refine pure_ (i := 21) (N := some 57) (v := undef) (a' := ?_) #[true, true, true, true, true, true, true, true, true, true, true, true, true, true, true, true, true, true, true, true, true, true, false, false] rfl rfl (any_of HT_.out (by kernel_rfl)) (fun _ _ _ h => h) (Or.inr ⟨by rfl, rfl⟩) ?_ ?_
          rotate_left
          ·simp only [Act.put, List.setIfInBounds_toArray, List.set_cons_zero, List.set_cons_succ, i64_w, i32_w]
           rfl
          refine pure_ (i := 22) (N := some 58) (v := undef) (a' := ?_) #[true, true, true, true, true, true, true, true, true, true, true, true, true, true, true, true, true, true, true, true, true, true, true, false] rfl rfl (any_of HT_.out (by kernel_rfl)) (fun _ _ _ h => h) (Or.inr ⟨by rfl, rfl⟩) ?_ ?_
          rotate_left
          ·simp only [Act.put, List.setIfInBounds_toArray, List.set_cons_zero, List.set_cons_succ, i64_w, i32_w]
           rfl
          refine pure_ (i := 23) (N := some 59) (v := ?_) (a' := ?_) #[true, true, true, true, true, true, true, true, true, true, true, true, true, true, true, true, true, true, true, true, true, true, true, true] rfl rfl (any_of HT_.out (by kernel_rfl)) (fun _ _ _ h => h) (Or.inl ⟨by rfl, ?_⟩) ?_ ?_
          rotate_left
          ·intro w'
           go_simp
           with_reducible rfl
          rotate_left
          ·simp only [Act.put, List.setIfInBounds_toArray, List.set_cons_zero, List.set_cons_succ, i64_w, i32_w]
           rfl
          refine done_ (done_of HT_.out (by kernel_rfl)) ?_
          try go_wp2
          go_meet
          case rel => exact ⟨_, (true), s1_, H', ⟨by have := HK1.out; first | omega | exact Nat.le_refl _⟩, ⟨(fA0 HO_7)⟩, ⟨(fA0 HO_8)⟩, ⟨(fA0 HO_9)⟩, ⟨(fA0 HO_406000)⟩, ⟨(fA0 HO_406001)⟩, ⟨(fA1 BK405)⟩, ⟨(fB1 GE405)⟩⟩
        ·rw [if_neg c29] at H
         exact absurd H (by simp)
       ·rw [if_neg c28] at H
        exact absurd H (by simp)
      case rest =>
       clear HC27
       try clear c1
       try clear c2
       try clear p2
       try clear c3
       try clear c4
       try clear p4
       try clear q4
       try clear hx4
       try clear c7
       try clear c8
       try clear c9
       try clear c10
       try clear c10b0
       try clear c10b1
       try clear c10b2
       try clear c11
       try clear c12
       try clear c26
       try clear c26b0
       try clear c28
       try clear c28b0
       try clear c29
       try clear c29b0
       try clear c30
       try clear c30b0
       try clear c30b1
       try clear hcz17_0
       try clear hcz17_1
       try clear hfz17_0
       try clear hfz17_1
       try clear hx415_0
       try clear hx415_1
       try clear hx416_0
       try clear hx416_1
       try clear hx417_0
       try clear hx417_1
       try clear hx418_0
       try clear hx418_1
       try clear p2
       try clear p415
       try clear p416
       try clear p417
       try clear p418
       try clear q415
       try clear q416
       try clear q417
       try clear q418
       obtain ⟨kq, x59_26, rfl, HA, HJ26, HO_7, HO_8, HO_9, HO_406000, HO_406001, BK405, HB⟩ := hcut
       cases kq with
       | zero => exact absurd HA.out (by simp [conciergelaw20_OrderSort.j1])
       | succ kj26 =>
        have H := HA.out
        clear HA
        simp only [conciergelaw20_OrderSort.j1] at H
        by_cases c33 : x59_26 = true
        ·subst c33
         rw [if_pos rfl] at H
         obtain rfl := Option.some.inj H
         go_wp2
         go_ret
         exact ⟨by first | rfl | (simp [errW_none, errW_some] <;> rfl) | (simp [*, errW_none, errW_some] <;> rfl), (fB1 GE405)⟩
        ·replace c33 := Bool.eq_false_iff.mpr c33
         subst c33
         rw [if_neg (show ¬ (false = true) by decide)] at H
         by_cases c34 : 0 ≤ x10_1
         ·rw [if_pos c34] at H
          have c34b0 : decide (0 ≤ x10_1) = true := decide_eq_true c34
          clear c34
          by_cases c35 : x10_1 < (t406.length : Int)
          ·rw [if_pos c35] at H
           have c35b0 : decide (x10_1 < (t406.length : Int)) = true := decide_eq_true c35
           clear c35
           replace H := Option.bind_eq_some_iff.mp H
           obtain ⟨⟨t420, t421, t422, t423, t424, t425⟩, A360, H⟩ := H
           have A36 := Aside0.mk A360
           clear A360
           replace H := Option.bind_eq_some_iff.mp H
           obtain ⟨⟨t427, t428, t429, t430, t431, t432⟩, A370, H⟩ := H
           have A37 := Aside0.mk A370
           clear A370
           by_cases c38 : (!(t420 == t427) || (!(t421 == t428) || (!(t422 == t429) || (!(t423 == t430) || (!(t424 == t431) || (!(t425 == t432))))))) = true
           ·rw [if_pos c38] at H
            have c38b0 : (!(t420 == t427) || (!(t421 == t428) || (!(t422 == t429) || (!(t423 == t430) || (!(t424 == t431) || (!(t425 == t432))))))) = true := c38
            clear c38
            obtain rfl := Option.some.inj H
            try go_wp2
            have n0_ := Aside0.mk (Kd.R_drew HO_7.out)
            have n1_ := Aside0.mk (Kd.R_drew HO_8.out)
            have n2_ := Aside0.mk (Kd.R_drew HO_9.out)
            have n3_ := Aside0.mk (Kd.R_drew HO_406000.out)
            have n4_ := Aside0.mk (Kd.R_drew HO_406001.out)
            have n5_ := Aside0.mk (blk_drew BK405.out)
            have n6_ := Aside0.mk (below_drew1 HB.out)
            clear HO_7
            clear HO_8
            clear HO_9
            clear HO_406000
            clear HO_406001
            clear BK405
            clear HB
            have HO_7 := n0_
            have HO_8 := n1_
            have HO_9 := n2_
            have HO_406000 := n3_
            have HO_406001 := n4_
            have BK405 := n5_
            have HB := n6_
            clear n0_ n1_ n2_ n3_ n4_ n5_ n6_
            have p419 : 0 ≤ (x10_1 : Int) := of_decide_eq_true (by first | (with_reducible assumption) | assumption)
            have q419 : x10_1 < (t406.length : Int) := of_decide_eq_true (by first | (with_reducible assumption) | assumption)
            obtain ⟨ad419, e419, hx419_0, hx419_1⟩ := at_T34 (Kd.R_reads' HO_7.out).2.2 x10_1 p419 q419
            cases e419
            replace p419 := eq_true p419
            replace q419 := eq_true q419
            have p426 : 0 ≤ (x10_1 : Int) := of_decide_eq_true (by first | (with_reducible assumption) | assumption)
            have q426 : x10_1 < (t406.length : Int) := of_decide_eq_true (by first | (with_reducible assumption) | assumption)
            obtain ⟨ad426, e426, hx426_0, hx426_1⟩ := at_T34 (Kd.R_reads' HO_7.out).2.2 x10_1 p426 q426
            obtain rfl : ad419 = ad426 := (by injection e426)
            replace p426 := eq_true p426
            replace q426 := eq_true q426
            refine start_ (n := 13) (S := fun w' => w'.cell? ⟨gb405, 0, none⟩ = some (.slice Ao16 t399.length co16) ∧ w'.cell? ⟨gb405, 1, none⟩ = some (.slice Ao18 t402.length co18) ∧ w'.cell? (ad419.add ((x10_1).toNat * 2)) = some (.string ((rd_T34 t406 x10_1).f0)) ∧ w'.cell? ⟨(ad419.add ((x10_1).toNat * 2)).block, (ad419.add ((x10_1).toNat * 2)).off + 1, none⟩ = some (.string ((rd_T34 t406 x10_1).f1)) ∧ w'.cell? (ad419.add ((x10_1).toNat * 2)) = some (.string ((rd_T34 t406 x10_1).f0)) ∧ w'.cell? ⟨(ad419.add ((x10_1).toNat * 2)).block, (ad419.add ((x10_1).toNat * 2)).off + 1, none⟩ = some (.string ((rd_T34 t406 x10_1).f1))) (ds := []) #[false, false, false, false, false, false, false, false, false, false, false, false, false] (by kernel_rfl) rfl rfl ⟨(blk_cell BK405.out 0).trans rfl, (blk_cell BK405.out 1).trans rfl, hx419_0, hx419_1, hx426_0, hx426_1⟩ (fun hHeld => ?_); refine with_tabW conciergelaw20_OrderSort.tab14 conciergelaw20_OrderSort.bits14 (fun HT_ HW_ => ?_)
            generalize wc.drew = w39 at HO_7 HO_8 HO_9 HO_406000 HO_406001 BK405 HB hx419_0 hx419_1 hx426_0 hx426_1 hHeld ⊢
            refine pure_ (i := 1) (N := some 61) (v := ?_) (a' := ?_) #[false, true, false, false, false, false, false, false, false, false, false, false, false] rfl rfl (any_of HT_.out (by kernel_rfl)) (fun _ _ _ h => h) (Or.inl ⟨by rfl, ?_⟩) ?_ ?_
            rotate_left
            ·intro w'
             go_simp
             with_reducible rfl
            rotate_left
            ·simp only [Act.put, List.setIfInBounds_toArray, List.set_cons_zero, List.set_cons_succ, i64_w, i32_w]
             rfl
            refine pure_ (i := 2) (N := some 62) (v := ?_) (a' := ?_) #[false, true, true, false, false, false, false, false, false, false, false, false, false] rfl rfl (any_of HT_.out (by kernel_rfl)) (fun _ _ _ h => h) (Or.inl ⟨by rfl, ?_⟩) ?_ ?_
            rotate_left
            ·intro w'
             go_simp
             with_reducible rfl
            rotate_left
            ·simp only [Act.put, List.setIfInBounds_toArray, List.set_cons_zero, List.set_cons_succ, i64_w, i32_w]
             rfl
            refine pure_ (i := 3) (N := some 63) (v := ?_) (a' := ?_) #[false, true, true, true, false, false, false, false, false, false, false, false, false] rfl rfl (any_of HT_.out (by kernel_rfl)) (fun _ _ _ h => h) (Or.inl ⟨by rfl, ?_⟩) ?_ ?_
            rotate_left
            ·intro w'
             go_simp
             with_reducible rfl
            rotate_left
            ·simp only [Act.put, List.setIfInBounds_toArray, List.set_cons_zero, List.set_cons_succ, i64_w, i32_w]
             rfl
            refine pure_ (i := 7) (N := some 67) (v := ?_) (a' := ?_) #[false, true, true, true, false, false, false, true, false, false, false, false, false] rfl rfl (any_of HT_.out (by kernel_rfl)) (fun _ _ _ h => h) (Or.inl ⟨by rfl, ?_⟩) ?_ ?_
            rotate_left
            ·intro w'
             go_simp
             with_reducible rfl
            rotate_left
            ·simp only [Act.put, List.setIfInBounds_toArray, List.set_cons_zero, List.set_cons_succ, i64_w, i32_w]
             rfl
            refine pure_ (i := 8) (N := some 68) (v := ?_) (a' := ?_) #[false, true, true, true, false, false, false, true, true, false, false, false, false] rfl rfl (any_of HT_.out (by kernel_rfl)) (fun _ _ _ h => h) (Or.inl ⟨by rfl, ?_⟩) ?_ ?_
            rotate_left
            ·intro w'
             go_simp
             with_reducible rfl
            rotate_left
            ·simp only [Act.put, List.setIfInBounds_toArray, List.set_cons_zero, List.set_cons_succ, i64_w, i32_w]
             rfl
            refine pure_ (i := 9) (N := some 69) (v := ?_) (a' := ?_) #[false, true, true, true, false, false, false, true, true, true, false, false, false] rfl rfl (any_of HT_.out (by kernel_rfl)) (fun _ _ _ h => h) (Or.inl ⟨by rfl, ?_⟩) ?_ ?_
            rotate_left
            ·intro w'
             go_simp
             with_reducible rfl
            rotate_left
            ·simp only [Act.put, List.setIfInBounds_toArray, List.set_cons_zero, List.set_cons_succ, i64_w, i32_w]
             rfl
            refine take_ (i := 0) (N := some 60) (v := ?_) (a' := ?_) #[true, true, true, true, false, false, false, true, true, true, false, false, false] rfl rfl (take_ofW HT_.out HW_.out (by kernel_rfl)) (fun _ _ _ h => h) (Or.inl ⟨by rfl, ?_⟩) hHeld ?_ ?_
            rotate_left
            ·rintro w' ⟨s0, s1, s2, s3, s4, s5⟩
             go_simp
             with_reducible rfl
            rotate_left
            ·simp only [Act.put, List.setIfInBounds_toArray, List.set_cons_zero, List.set_cons_succ, i64_w, i32_w]
             rfl
            refine take_ (i := 4) (N := some 64) (v := ?_) (a' := ?_) #[true, true, true, true, true, false, false, true, true, true, false, false, false] rfl rfl (take_ofW HT_.out HW_.out (by kernel_rfl)) (fun _ _ _ h => h) (Or.inl ⟨by rfl, ?_⟩) hHeld ?_ ?_
            rotate_left
            ·rintro w' ⟨s0, s1, s2, s3, s4, s5⟩
             go_simp
             with_reducible rfl
            rotate_left
            ·simp only [Act.put, List.setIfInBounds_toArray, List.set_cons_zero, List.set_cons_succ, i64_w, i32_w]
             rfl
            refine take_ (i := 6) (N := some 66) (v := ?_) (a' := ?_) #[true, true, true, true, true, false, true, true, true, true, false, false, false] rfl rfl (take_ofW HT_.out HW_.out (by kernel_rfl)) (fun _ _ _ h => h) (Or.inl ⟨by rfl, ?_⟩) hHeld ?_ ?_
            rotate_left
            ·rintro w' ⟨s0, s1, s2, s3, s4, s5⟩
             go_simp
             with_reducible rfl
            rotate_left
            ·simp only [Act.put, List.setIfInBounds_toArray, List.set_cons_zero, List.set_cons_succ, i64_w, i32_w]
             rfl
            refine take_ (i := 10) (N := some 70) (v := ?_) (a' := ?_) #[true, true, true, true, true, false, true, true, true, true, true, false, false] rfl rfl (take_ofW HT_.out HW_.out (by kernel_rfl)) (fun _ _ _ h => h) (Or.inl ⟨by rfl, ?_⟩) hHeld ?_ ?_
            rotate_left
            ·rintro w' ⟨s0, s1, s2, s3, s4, s5⟩
             go_simp
             with_reducible rfl
            rotate_left
            ·simp only [Act.put, List.setIfInBounds_toArray, List.set_cons_zero, List.set_cons_succ, i64_w, i32_w]
             rfl
            refine one_ (i := 5) (N := some 65) #[true, true, true, true, true, true, true, true, true, true, true, false, false] rfl rfl (one_of HT_.out (by kernel_rfl)) (by decide) (fun K hK => ?_)
            refine goes_ Try.func13 (by kernel_rfl) rfl #[.agg #[.slice Ao16 t399.length co16, .slice Ao18 t402.length co18], .agg #[.string ((rd_T34 t406 x10_1).f0), .string ((rd_T34 t406 x10_1).f1)]] (by rfl) rfl rfl s2_ ?_
            with_reducible refine (order_Keys.calls kj26 _ _ t399 _ _ t402 ((rd_T34 t406 x10_1).f0) ((rd_T34 t406 x10_1).f1) t420 t421 t422 t423 t424 t425 _ ?side1 ?side2 ?side3 ?side4 A36.out).mono ?_
            (case side1 => repeat (first | exact (Kd.R_reads' HO_406000.out).2.2 | (with_reducible refine Kd.C_alloc ?_ _) | (with_reducible refine Kd.C_drewN ?_ _) | (with_reducible refine Kd.C_drew ?_)))
            (case side2 => exact (Kd.R_reads' HO_406000.out).2.1)
            (case side3 => repeat (first | exact (Kd.R_reads' HO_406001.out).2.2 | (with_reducible refine Kd.C_alloc ?_ _) | (with_reducible refine Kd.C_drewN ?_ _) | (with_reducible refine Kd.C_drew ?_)))
            (case side4 => exact (Kd.R_reads' HO_406001.out).2.1)
            rintro e w40 ⟨rfl, hb⟩
            have HS2_ := (hb.cell (World.block_lt_of_cell? _ _ (hHeld.2.2.1))).trans (hHeld.2.2.1)
            have HS3_ := (hb.cell (World.block_lt_of_cell? _ _ (hHeld.2.2.2.1))).trans (hHeld.2.2.2.1)
            have HS4_ := (hb.cell (World.block_lt_of_cell? _ _ (hHeld.2.2.2.2.1))).trans (hHeld.2.2.2.2.1)
            have HS5_ := (hb.cell (World.block_lt_of_cell? _ _ (hHeld.2.2.2.2.2))).trans (hHeld.2.2.2.2.2)
            refine ⟨_, rfl, ?_⟩
            have n0_ := Aside0.mk (Kd.R_below (fA0 HO_7) hb)
            have n1_ := Aside0.mk (Kd.R_below (fA0 HO_8) hb)
            have n2_ := Aside0.mk (Kd.R_below (fA0 HO_9) hb)
            have n3_ := Aside0.mk (Kd.R_below (fA0 HO_406000) hb)
            have n4_ := Aside0.mk (Kd.R_below (fA0 HO_406001) hb)
            have n5_ := Aside0.mk (blk_below (g := gb405) (o := .cells #[.slice Ao16 t399.length co16, .slice Ao18 t402.length co18] 28 (0, 0)) (fA1 BK405) hb)
            have n6_ := Aside0.mk (below_step (fB1 GE405) hb)
            clear HO_7
            clear HO_8
            clear HO_9
            clear HO_406000
            clear HO_406001
            clear BK405
            clear HB
            have HO_7 := n0_
            have HO_8 := n1_
            have HO_9 := n2_
            have HO_406000 := n3_
            have HO_406001 := n4_
            have BK405 := n5_
            have HB := n6_
            clear n0_ n1_ n2_ n3_ n4_ n5_ n6_
            (try clear hb)
            (try clear hb2)
            (try clear hk)
            (try clear hi)
            refine hK.out _ _ ⟨(blk_cell BK405.out 0).trans rfl, (blk_cell BK405.out 1).trans rfl, HS2_, HS3_, HS4_, HS5_⟩ (fun hHeld => ?_)
            clear hK K
            refine norm_ (a' := ?_) ?_ ?_
            rotate_left
            ·show Act.put _ (some 65) _ = _
             simp only [Act.put, List.setIfInBounds_toArray, List.set_cons_zero, List.set_cons_succ, i64_w, i32_w]
             rfl
            refine one_ (i := 11) (N := some 71) #[true, true, true, true, true, true, true, true, true, true, true, true, false] rfl rfl (one_of HT_.out (by kernel_rfl)) (by decide) (fun K hK => ?_)
            refine goes_ Try.func14 (by kernel_rfl) rfl #[.agg #[.slice Ao16 t399.length co16, .slice Ao18 t402.length co18], .agg #[.string ((rd_T34 t406 x10_1).f0), .string ((rd_T34 t406 x10_1).f1)]] (by rfl) rfl rfl s2_ ?_
            with_reducible refine (conciergeref15_Keys.calls kj26 _ _ t399 _ _ t402 ((rd_T34 t406 x10_1).f0) ((rd_T34 t406 x10_1).f1) t427 t428 t429 t430 t431 t432 _ ?side1 ?side2 ?side3 ?side4 A37.out).mono ?_
            (case side1 => repeat (first | exact (Kd.R_reads' HO_406000.out).2.2 | (with_reducible refine Kd.C_alloc ?_ _) | (with_reducible refine Kd.C_drewN ?_ _) | (with_reducible refine Kd.C_drew ?_)))
            (case side2 => exact (Kd.R_reads' HO_406000.out).2.1)
            (case side3 => repeat (first | exact (Kd.R_reads' HO_406001.out).2.2 | (with_reducible refine Kd.C_alloc ?_ _) | (with_reducible refine Kd.C_drewN ?_ _) | (with_reducible refine Kd.C_drew ?_)))
            (case side4 => exact (Kd.R_reads' HO_406001.out).2.1)
            rintro e w41 ⟨rfl, hb⟩
            have HS2_ := (hb.cell (World.block_lt_of_cell? _ _ (hHeld.2.2.1))).trans (hHeld.2.2.1)
            have HS3_ := (hb.cell (World.block_lt_of_cell? _ _ (hHeld.2.2.2.1))).trans (hHeld.2.2.2.1)
            have HS4_ := (hb.cell (World.block_lt_of_cell? _ _ (hHeld.2.2.2.2.1))).trans (hHeld.2.2.2.2.1)
            have HS5_ := (hb.cell (World.block_lt_of_cell? _ _ (hHeld.2.2.2.2.2))).trans (hHeld.2.2.2.2.2)
            refine ⟨_, rfl, ?_⟩
            have n0_ := Aside0.mk (Kd.R_below (fA0 HO_7) hb)
            have n1_ := Aside0.mk (Kd.R_below (fA0 HO_8) hb)
            have n2_ := Aside0.mk (Kd.R_below (fA0 HO_9) hb)
            have n3_ := Aside0.mk (Kd.R_below (fA0 HO_406000) hb)
            have n4_ := Aside0.mk (Kd.R_below (fA0 HO_406001) hb)
            have n5_ := Aside0.mk (blk_below (g := gb405) (o := .cells #[.slice Ao16 t399.length co16, .slice Ao18 t402.length co18] 28 (0, 0)) (fA1 BK405) hb)
            have n6_ := Aside0.mk (below_step (fB1 GE405) hb)
            clear HO_7
            clear HO_8
            clear HO_9
            clear HO_406000
            clear HO_406001
            clear BK405
            clear HB
            have HO_7 := n0_
            have HO_8 := n1_
            have HO_9 := n2_
            have HO_406000 := n3_
            have HO_406001 := n4_
            have BK405 := n5_
            have HB := n6_
            clear n0_ n1_ n2_ n3_ n4_ n5_ n6_
            (try clear hb)
            (try clear hb2)
            (try clear hk)
            (try clear hi)
            refine hK.out _ _ ⟨(blk_cell BK405.out 0).trans rfl, (blk_cell BK405.out 1).trans rfl, HS2_, HS3_, HS4_, HS5_⟩ (fun hHeld => ?_)
            clear hK K
            refine norm_ (a' := ?_) ?_ ?_
            rotate_left
            ·show Act.put _ (some 71) _ = _
             simp only [Act.put, List.setIfInBounds_toArray, List.set_cons_zero, List.set_cons_succ, i64_w, i32_w]
             rfl
            refine pure_ (i := 12) (N := some 72) (v := ?_) (a' := ?_) #[true, true, true, true, true, true, true, true, true, true, true, true, true] rfl rfl (any_of HT_.out (by kernel_rfl)) (fun _ _ _ h => h) (Or.inl ⟨by rfl, ?_⟩) ?_ ?_
            rotate_left
            ·intro w'
             go_simp
             with_reducible rfl
            rotate_left
            ·simp only [Act.put, List.setIfInBounds_toArray, List.set_cons_zero, List.set_cons_succ, i64_w, i32_w]
             rfl
            refine done_ (done_of HT_.out (by kernel_rfl)) ?_
            try go_wp2
            go_ret
            exact ⟨by first | rfl | (simp [errW_none, errW_some] <;> rfl) | (simp [*, errW_none, errW_some] <;> rfl), (fB1 GE405)⟩
           ·rw [if_neg c38] at H
            have c38b0 : (!(t420 == t427) || (!(t421 == t428) || (!(t422 == t429) || (!(t423 == t430) || (!(t424 == t431) || (!(t425 == t432))))))) = false := by simpa using c38
            clear c38
            have H' := Aside0.mk H
            clear H
            try go_wp2
            have n0_ := Aside0.mk (Kd.R_drew HO_7.out)
            have n1_ := Aside0.mk (Kd.R_drew HO_8.out)
            have n2_ := Aside0.mk (Kd.R_drew HO_9.out)
            have n3_ := Aside0.mk (Kd.R_drew HO_406000.out)
            have n4_ := Aside0.mk (Kd.R_drew HO_406001.out)
            have n5_ := Aside0.mk (blk_drew BK405.out)
            have n6_ := Aside0.mk (below_drew1 HB.out)
            clear HO_7
            clear HO_8
            clear HO_9
            clear HO_406000
            clear HO_406001
            clear BK405
            clear HB
            have HO_7 := n0_
            have HO_8 := n1_
            have HO_9 := n2_
            have HO_406000 := n3_
            have HO_406001 := n4_
            have BK405 := n5_
            have HB := n6_
            clear n0_ n1_ n2_ n3_ n4_ n5_ n6_
            have p419 : 0 ≤ (x10_1 : Int) := of_decide_eq_true (by first | (with_reducible assumption) | assumption)
            have q419 : x10_1 < (t406.length : Int) := of_decide_eq_true (by first | (with_reducible assumption) | assumption)
            obtain ⟨ad419, e419, hx419_0, hx419_1⟩ := at_T34 (Kd.R_reads' HO_7.out).2.2 x10_1 p419 q419
            cases e419
            replace p419 := eq_true p419
            replace q419 := eq_true q419
            have p426 : 0 ≤ (x10_1 : Int) := of_decide_eq_true (by first | (with_reducible assumption) | assumption)
            have q426 : x10_1 < (t406.length : Int) := of_decide_eq_true (by first | (with_reducible assumption) | assumption)
            obtain ⟨ad426, e426, hx426_0, hx426_1⟩ := at_T34 (Kd.R_reads' HO_7.out).2.2 x10_1 p426 q426
            obtain rfl : ad419 = ad426 := (by injection e426)
            replace p426 := eq_true p426
            replace q426 := eq_true q426
            refine start_ (n := 13) (S := fun w' => w'.cell? ⟨gb405, 0, none⟩ = some (.slice Ao16 t399.length co16) ∧ w'.cell? ⟨gb405, 1, none⟩ = some (.slice Ao18 t402.length co18) ∧ w'.cell? (ad419.add ((x10_1).toNat * 2)) = some (.string ((rd_T34 t406 x10_1).f0)) ∧ w'.cell? ⟨(ad419.add ((x10_1).toNat * 2)).block, (ad419.add ((x10_1).toNat * 2)).off + 1, none⟩ = some (.string ((rd_T34 t406 x10_1).f1)) ∧ w'.cell? (ad419.add ((x10_1).toNat * 2)) = some (.string ((rd_T34 t406 x10_1).f0)) ∧ w'.cell? ⟨(ad419.add ((x10_1).toNat * 2)).block, (ad419.add ((x10_1).toNat * 2)).off + 1, none⟩ = some (.string ((rd_T34 t406 x10_1).f1))) (ds := []) #[false, false, false, false, false, false, false, false, false, false, false, false, false] (by kernel_rfl) rfl rfl ⟨(blk_cell BK405.out 0).trans rfl, (blk_cell BK405.out 1).trans rfl, hx419_0, hx419_1, hx426_0, hx426_1⟩ (fun hHeld => ?_); refine with_tabW conciergelaw20_OrderSort.tab14 conciergelaw20_OrderSort.bits14 (fun HT_ HW_ => ?_)
            generalize wc.drew = w42 at HO_7 HO_8 HO_9 HO_406000 HO_406001 BK405 HB hx419_0 hx419_1 hx426_0 hx426_1 hHeld ⊢
            refine pure_ (i := 1) (N := some 61) (v := ?_) (a' := ?_) #[false, true, false, false, false, false, false, false, false, false, false, false, false] rfl rfl (any_of HT_.out (by kernel_rfl)) (fun _ _ _ h => h) (Or.inl ⟨by rfl, ?_⟩) ?_ ?_
            rotate_left
            ·intro w'
             go_simp
             with_reducible rfl
            rotate_left
            ·simp only [Act.put, List.setIfInBounds_toArray, List.set_cons_zero, List.set_cons_succ, i64_w, i32_w]
             rfl
            refine pure_ (i := 2) (N := some 62) (v := ?_) (a' := ?_) #[false, true, true, false, false, false, false, false, false, false, false, false, false] rfl rfl (any_of HT_.out (by kernel_rfl)) (fun _ _ _ h => h) (Or.inl ⟨by rfl, ?_⟩) ?_ ?_
            rotate_left
            ·intro w'
             go_simp
             with_reducible rfl
            rotate_left
            ·simp only [Act.put, List.setIfInBounds_toArray, List.set_cons_zero, List.set_cons_succ, i64_w, i32_w]
             rfl
            refine pure_ (i := 3) (N := some 63) (v := ?_) (a' := ?_) #[false, true, true, true, false, false, false, false, false, false, false, false, false] rfl rfl (any_of HT_.out (by kernel_rfl)) (fun _ _ _ h => h) (Or.inl ⟨by rfl, ?_⟩) ?_ ?_
            rotate_left
            ·intro w'
             go_simp
             with_reducible rfl
            rotate_left
            ·simp only [Act.put, List.setIfInBounds_toArray, List.set_cons_zero, List.set_cons_succ, i64_w, i32_w]
             rfl
            refine pure_ (i := 7) (N := some 67) (v := ?_) (a' := ?_) #[false, true, true, true, false, false, false, true, false, false, false, false, false] rfl rfl (any_of HT_.out (by kernel_rfl)) (fun _ _ _ h => h) (Or.inl ⟨by rfl, ?_⟩) ?_ ?_
            rotate_left
            ·intro w'
             go_simp
             with_reducible rfl
            rotate_left
            ·simp only [Act.put, List.setIfInBounds_toArray, List.set_cons_zero, List.set_cons_succ, i64_w, i32_w]
             rfl
            refine pure_ (i := 8) (N := some 68) (v := ?_) (a' := ?_) #[false, true, true, true, false, false, false, true, true, false, false, false, false] rfl rfl (any_of HT_.out (by kernel_rfl)) (fun _ _ _ h => h) (Or.inl ⟨by rfl, ?_⟩) ?_ ?_
            rotate_left
            ·intro w'
             go_simp
             with_reducible rfl
            rotate_left
            ·simp only [Act.put, List.setIfInBounds_toArray, List.set_cons_zero, List.set_cons_succ, i64_w, i32_w]
             rfl
            refine pure_ (i := 9) (N := some 69) (v := ?_) (a' := ?_) #[false, true, true, true, false, false, false, true, true, true, false, false, false] rfl rfl (any_of HT_.out (by kernel_rfl)) (fun _ _ _ h => h) (Or.inl ⟨by rfl, ?_⟩) ?_ ?_
            rotate_left
            ·intro w'
             go_simp
             with_reducible rfl
            rotate_left
            ·simp only [Act.put, List.setIfInBounds_toArray, List.set_cons_zero, List.set_cons_succ, i64_w, i32_w]
             rfl
            refine take_ (i := 0) (N := some 60) (v := ?_) (a' := ?_) #[true, true, true, true, false, false, false, true, true, true, false, false, false] rfl rfl (take_ofW HT_.out HW_.out (by kernel_rfl)) (fun _ _ _ h => h) (Or.inl ⟨by rfl, ?_⟩) hHeld ?_ ?_
            rotate_left
            ·rintro w' ⟨s0, s1, s2, s3, s4, s5⟩
             go_simp
             with_reducible rfl
            rotate_left
            ·simp only [Act.put, List.setIfInBounds_toArray, List.set_cons_zero, List.set_cons_succ, i64_w, i32_w]
             rfl
            refine take_ (i := 4) (N := some 64) (v := ?_) (a' := ?_) #[true, true, true, true, true, false, false, true, true, true, false, false, false] rfl rfl (take_ofW HT_.out HW_.out (by kernel_rfl)) (fun _ _ _ h => h) (Or.inl ⟨by rfl, ?_⟩) hHeld ?_ ?_
            rotate_left
            ·rintro w' ⟨s0, s1, s2, s3, s4, s5⟩
             go_simp
             with_reducible rfl
            rotate_left
            ·simp only [Act.put, List.setIfInBounds_toArray, List.set_cons_zero, List.set_cons_succ, i64_w, i32_w]
             rfl
            refine take_ (i := 6) (N := some 66) (v := ?_) (a' := ?_) #[true, true, true, true, true, false, true, true, true, true, false, false, false] rfl rfl (take_ofW HT_.out HW_.out (by kernel_rfl)) (fun _ _ _ h => h) (Or.inl ⟨by rfl, ?_⟩) hHeld ?_ ?_
            rotate_left
            ·rintro w' ⟨s0, s1, s2, s3, s4, s5⟩
             go_simp
             with_reducible rfl
            rotate_left
            ·simp only [Act.put, List.setIfInBounds_toArray, List.set_cons_zero, List.set_cons_succ, i64_w, i32_w]
             rfl
            refine take_ (i := 10) (N := some 70) (v := ?_) (a' := ?_) #[true, true, true, true, true, false, true, true, true, true, true, false, false] rfl rfl (take_ofW HT_.out HW_.out (by kernel_rfl)) (fun _ _ _ h => h) (Or.inl ⟨by rfl, ?_⟩) hHeld ?_ ?_
            rotate_left
            ·rintro w' ⟨s0, s1, s2, s3, s4, s5⟩
             go_simp
             with_reducible rfl
            rotate_left
            ·simp only [Act.put, List.setIfInBounds_toArray, List.set_cons_zero, List.set_cons_succ, i64_w, i32_w]
             rfl
            refine one_ (i := 5) (N := some 65) #[true, true, true, true, true, true, true, true, true, true, true, false, false] rfl rfl (one_of HT_.out (by kernel_rfl)) (by decide) (fun K hK => ?_)
            refine goes_ Try.func13 (by kernel_rfl) rfl #[.agg #[.slice Ao16 t399.length co16, .slice Ao18 t402.length co18], .agg #[.string ((rd_T34 t406 x10_1).f0), .string ((rd_T34 t406 x10_1).f1)]] (by rfl) rfl rfl s2_ ?_
            with_reducible refine (order_Keys.calls kj26 _ _ t399 _ _ t402 ((rd_T34 t406 x10_1).f0) ((rd_T34 t406 x10_1).f1) t420 t421 t422 t423 t424 t425 _ ?side1 ?side2 ?side3 ?side4 A36.out).mono ?_
            (case side1 => repeat (first | exact (Kd.R_reads' HO_406000.out).2.2 | (with_reducible refine Kd.C_alloc ?_ _) | (with_reducible refine Kd.C_drewN ?_ _) | (with_reducible refine Kd.C_drew ?_)))
            (case side2 => exact (Kd.R_reads' HO_406000.out).2.1)
            (case side3 => repeat (first | exact (Kd.R_reads' HO_406001.out).2.2 | (with_reducible refine Kd.C_alloc ?_ _) | (with_reducible refine Kd.C_drewN ?_ _) | (with_reducible refine Kd.C_drew ?_)))
            (case side4 => exact (Kd.R_reads' HO_406001.out).2.1)
            rintro e w43 ⟨rfl, hb⟩
            have HS2_ := (hb.cell (World.block_lt_of_cell? _ _ (hHeld.2.2.1))).trans (hHeld.2.2.1)
            have HS3_ := (hb.cell (World.block_lt_of_cell? _ _ (hHeld.2.2.2.1))).trans (hHeld.2.2.2.1)
            have HS4_ := (hb.cell (World.block_lt_of_cell? _ _ (hHeld.2.2.2.2.1))).trans (hHeld.2.2.2.2.1)
            have HS5_ := (hb.cell (World.block_lt_of_cell? _ _ (hHeld.2.2.2.2.2))).trans (hHeld.2.2.2.2.2)
            refine ⟨_, rfl, ?_⟩
            have n0_ := Aside0.mk (Kd.R_below (fA0 HO_7) hb)
            have n1_ := Aside0.mk (Kd.R_below (fA0 HO_8) hb)
            have n2_ := Aside0.mk (Kd.R_below (fA0 HO_9) hb)
            have n3_ := Aside0.mk (Kd.R_below (fA0 HO_406000) hb)
            have n4_ := Aside0.mk (Kd.R_below (fA0 HO_406001) hb)
            have n5_ := Aside0.mk (blk_below (g := gb405) (o := .cells #[.slice Ao16 t399.length co16, .slice Ao18 t402.length co18] 28 (0, 0)) (fA1 BK405) hb)
            have n6_ := Aside0.mk (below_step (fB1 GE405) hb)
            clear HO_7
            clear HO_8
            clear HO_9
            clear HO_406000
            clear HO_406001
            clear BK405
            clear HB
            have HO_7 := n0_
            have HO_8 := n1_
            have HO_9 := n2_
            have HO_406000 := n3_
            have HO_406001 := n4_
            have BK405 := n5_
            have HB := n6_
            clear n0_ n1_ n2_ n3_ n4_ n5_ n6_
            (try clear hb)
            (try clear hb2)
            (try clear hk)
            (try clear hi)
            refine hK.out _ _ ⟨(blk_cell BK405.out 0).trans rfl, (blk_cell BK405.out 1).trans rfl, HS2_, HS3_, HS4_, HS5_⟩ (fun hHeld => ?_)
            clear hK K
            refine norm_ (a' := ?_) ?_ ?_
            rotate_left
            ·show Act.put _ (some 65) _ = _
             simp only [Act.put, List.setIfInBounds_toArray, List.set_cons_zero, List.set_cons_succ, i64_w, i32_w]
             rfl
            refine one_ (i := 11) (N := some 71) #[true, true, true, true, true, true, true, true, true, true, true, true, false] rfl rfl (one_of HT_.out (by kernel_rfl)) (by decide) (fun K hK => ?_)
            refine goes_ Try.func14 (by kernel_rfl) rfl #[.agg #[.slice Ao16 t399.length co16, .slice Ao18 t402.length co18], .agg #[.string ((rd_T34 t406 x10_1).f0), .string ((rd_T34 t406 x10_1).f1)]] (by rfl) rfl rfl s2_ ?_
            with_reducible refine (conciergeref15_Keys.calls kj26 _ _ t399 _ _ t402 ((rd_T34 t406 x10_1).f0) ((rd_T34 t406 x10_1).f1) t427 t428 t429 t430 t431 t432 _ ?side1 ?side2 ?side3 ?side4 A37.out).mono ?_
            (case side1 => repeat (first | exact (Kd.R_reads' HO_406000.out).2.2 | (with_reducible refine Kd.C_alloc ?_ _) | (with_reducible refine Kd.C_drewN ?_ _) | (with_reducible refine Kd.C_drew ?_)))
            (case side2 => exact (Kd.R_reads' HO_406000.out).2.1)
            (case side3 => repeat (first | exact (Kd.R_reads' HO_406001.out).2.2 | (with_reducible refine Kd.C_alloc ?_ _) | (with_reducible refine Kd.C_drewN ?_ _) | (with_reducible refine Kd.C_drew ?_)))
            (case side4 => exact (Kd.R_reads' HO_406001.out).2.1)
            rintro e w44 ⟨rfl, hb⟩
            have HS2_ := (hb.cell (World.block_lt_of_cell? _ _ (hHeld.2.2.1))).trans (hHeld.2.2.1)
            have HS3_ := (hb.cell (World.block_lt_of_cell? _ _ (hHeld.2.2.2.1))).trans (hHeld.2.2.2.1)
            have HS4_ := (hb.cell (World.block_lt_of_cell? _ _ (hHeld.2.2.2.2.1))).trans (hHeld.2.2.2.2.1)
            have HS5_ := (hb.cell (World.block_lt_of_cell? _ _ (hHeld.2.2.2.2.2))).trans (hHeld.2.2.2.2.2)
            refine ⟨_, rfl, ?_⟩
            have n0_ := Aside0.mk (Kd.R_below (fA0 HO_7) hb)
            have n1_ := Aside0.mk (Kd.R_below (fA0 HO_8) hb)
            have n2_ := Aside0.mk (Kd.R_below (fA0 HO_9) hb)
            have n3_ := Aside0.mk (Kd.R_below (fA0 HO_406000) hb)
            have n4_ := Aside0.mk (Kd.R_below (fA0 HO_406001) hb)
            have n5_ := Aside0.mk (blk_below (g := gb405) (o := .cells #[.slice Ao16 t399.length co16, .slice Ao18 t402.length co18] 28 (0, 0)) (fA1 BK405) hb)
            have n6_ := Aside0.mk (below_step (fB1 GE405) hb)
            clear HO_7
            clear HO_8
            clear HO_9
            clear HO_406000
            clear HO_406001
            clear BK405
            clear HB
            have HO_7 := n0_
            have HO_8 := n1_
            have HO_9 := n2_
            have HO_406000 := n3_
            have HO_406001 := n4_
            have BK405 := n5_
            have HB := n6_
            clear n0_ n1_ n2_ n3_ n4_ n5_ n6_
            (try clear hb)
            (try clear hb2)
            (try clear hk)
            (try clear hi)
            refine hK.out _ _ ⟨(blk_cell BK405.out 0).trans rfl, (blk_cell BK405.out 1).trans rfl, HS2_, HS3_, HS4_, HS5_⟩ (fun hHeld => ?_)
            clear hK K
            refine norm_ (a' := ?_) ?_ ?_
            rotate_left
            ·show Act.put _ (some 71) _ = _
             simp only [Act.put, List.setIfInBounds_toArray, List.set_cons_zero, List.set_cons_succ, i64_w, i32_w]
             rfl
            refine pure_ (i := 12) (N := some 72) (v := ?_) (a' := ?_) #[true, true, true, true, true, true, true, true, true, true, true, true, true] rfl rfl (any_of HT_.out (by kernel_rfl)) (fun _ _ _ h => h) (Or.inl ⟨by rfl, ?_⟩) ?_ ?_
            rotate_left
            ·intro w'
             go_simp
             with_reducible rfl
            rotate_left
            ·simp only [Act.put, List.setIfInBounds_toArray, List.set_cons_zero, List.set_cons_succ, i64_w, i32_w]
             rfl
            refine done_ (done_of HT_.out (by kernel_rfl)) ?_
            try go_wp2
            go_roundg kj26
            case measure => have := HK1.out; have := HJ26.out; omega
            case rel => exact ⟨(wrap64 (x10_1 + 1)), s1_, H', ⟨by have := HK1.out; have := HJ26.out; omega⟩, ⟨(fA0 HO_7)⟩, ⟨(fA0 HO_8)⟩, ⟨(fA0 HO_9)⟩, ⟨(fA0 HO_406000)⟩, ⟨(fA0 HO_406001)⟩, ⟨(fA1 BK405)⟩, ⟨(fB1 GE405)⟩⟩
          ·rw [if_neg c35] at H
           exact absurd H (by simp)
         ·rw [if_neg c34] at H
          exact absurd H (by simp)
     ·rw [if_neg c26] at H
      have c26b0 : decide (x10_1 < (t409.length : Int)) = false := decide_eq_false c26
      clear c26
      obtain rfl := Option.some.inj H
      go_wp2
      go_ret
      exact ⟨by first | rfl | (simp [errW_none, errW_some] <;> rfl) | (simp [*, errW_none, errW_some] <;> rfl), (fB1 GE405)⟩
  ·rw [if_neg c10] at H
   have c10b0 : ((t409.length : Int) == (t412.length : Int)) = false := beq_eq_false_iff_ne.mpr c10
   have c10b1 : ((t409.length : Int) != (t412.length : Int)) = true := bne_iff_ne.mpr c10
   have c10b2 : (t409.length == t412.length) = false := by first | simpa using c10 | (simp at c10 ⊢; omega)
   obtain rfl := Option.some.inj H
   go_enter Try.func3, Try.ntmps3
   try go_wp2_with (first | ((with_reducible refine gate_callee (f := 7) rfl ?_); refine goesL_ (some 11) rfl rfl Try.func7 (by kernel_rfl) rfl #[] rfl s2_ ?_; (with_reducible refine (conciergelaw20_begun.calls k  true _ A3.out).mono ?_); rintro e w45 ⟨rfl, hb⟩; refine ⟨_, rfl, ?_⟩; have n0_ := Aside0.mk (below_step (fB0) hb); clear HB; have HB := n0_; clear n0_; (try clear hb); (try clear hb2); (try clear hk); (try clear hi)) | ((with_reducible refine gate_callee (f := 9) rfl ?_); refine goesL_ (some 15) rfl rfl Try.func9 (by kernel_rfl) rfl #[.slice A0 l0.length c0, .int .i64 800] rfl s2_ ?_; (with_reducible refine (conciergelaw1_Short.calls (fun k_ => k_ < w.heap.size) _ _ l0 800 t396 _ ?side1 A5.out).mono ?_); (case side1 => exact Kd.V_mk HC0.out (Kd.F_below (Kd.C_F (Kd.heap_int .u8) HR0.out) (fB0))); rintro e w46 ⟨v397, rfl, ho0, hb⟩; refine ⟨_, rfl, ?_⟩; have n0_ := Aside0.mk (Kd.V_lower (Kd.V_mono (ok' := fun k_ => True) ho0 (fun k_ hk_ => trivial)) (below_size (fB0))); have n1_ := Aside0.mk (below_step (fB0) hb); clear HB; have HO398 := n0_; have HB := n1_; clear n0_ n1_; (try clear hb); (try clear hb2); (try clear hk); (try clear hi); (try clear ho0); obtain ⟨Ao47, co47, eo47⟩ := Kd.V_slice HO398.out; subst eo47) | ((with_reducible refine gate_callee (f := 8) rfl ?_); refine goesL_ (some 16) rfl rfl Try.func8 (by kernel_rfl) rfl #[.slice Ao47 t396.length co47] rfl s2_ ?_; (with_reducible refine (conciergeref15_Select.calls k _ _ t396 t399 t402 _ ?side1 ?side2 A6.out).mono ?_); (case side1 => repeat (first | exact (Kd.V_reads' HO398.out).2.2 | (with_reducible refine Kd.C_alloc ?_ _) | (with_reducible refine Kd.C_drewN ?_ _) | (with_reducible refine Kd.C_drew ?_))); (case side2 => exact (Kd.V_reads' HO398.out).2.1); rintro e w48 ⟨v400, v403, rfl, ho0, ho1, hb⟩; refine ⟨_, rfl, ?_⟩; have n0_ := Aside0.mk (Kd.V_mono (Kd.V_told (Kd.V_told (Kd.V_old (fA3 HO398) hb) (Kd.R_base ho0)) (Kd.R_base ho1)) (fun _ h_ => h_.1)); have n1_ := Aside0.mk (Kd.R_lower ho0 (below_size (fB0))); have n2_ := Aside0.mk (Kd.R_lower ho1 (below_size (fB0))); have n3_ := Aside0.mk (below_step (fB0) hb); clear HO398; clear HB; have HO398 := n0_; have HO401 := n1_; have HO404 := n2_; have HB := n3_; clear n0_ n1_ n2_ n3_; (try clear hb); (try clear hb2); (try clear hk); (try clear hi); (try clear ho0); (try clear ho1)) | ((with_reducible refine gate_dst (N := 6) rfl ?_); refine box_event ?hg (N := 6) ?hd (cs := #[.slice none 0 0, .slice none 0 0]) (t := 28) ?hr ?_; (case hd => rfl); (case hg => rfl); (case hr => first | (go_simp; done) | (go_simp; rfl)); intro gb405 hg w49 hbox hb; have n0_ := Aside0.mk (Kd.V_below (Kd.V_elderB (fA3 HO398) gb405 (Nat.le_of_eq hg.symm)) hb); have n1_ := Aside0.mk (Kd.R_below (fA0 HO401) hb); have n2_ := Aside0.mk (Kd.R_below (fA0 HO404) hb); have n3_ := Aside0.mk (below_step (fB0) hb); have n4_ := Aside0.mk (hbox); have n5_ := Aside0.mk ((by rw [hg]; exact (below_size (fB0)) : w.heap.size ≤ gb405)); have n6_ := Aside0.mk ((by rw [hg]; exact (below_size (fB0)) : w.heap.size ≤ gb405)); clear HO398; clear HO401; clear HO404; clear HB; have HO398 := n0_; have HO401 := n1_; have HO404 := n2_; have HB := n3_; have BK405 := n4_; have GW405 := n5_; have GE405 := n6_; clear n0_ n1_ n2_ n3_ n4_ n5_ n6_; clear hb hbox hg; obtain ⟨Ao50, co50, eo50⟩ := Kd.R_slice HO401.out; subst eo50; have hcz51_0 : w49.cell? ⟨gb405, 0, none⟩ = some (.slice none 0 0) := (blk_cell BK405.out 0).trans rfl; have hcz51_1 : w49.cell? ⟨gb405, 1, none⟩ = some (.slice none 0 0) := (blk_cell BK405.out 1).trans rfl; have hfz51_0 := blk_frozen BK405.out 0; have hfz51_1 := blk_frozen BK405.out 1; obtain ⟨Ao52, co52, eo52⟩ := Kd.R_slice HO404.out; subst eo52) | ((with_reducible refine gate_callee (f := 10) rfl ?_); refine goesL_ (some 18) rfl rfl Try.func10 (by kernel_rfl) rfl #[.slice A1 l1.length c1] rfl s2_ ?_; (with_reducible refine (conciergelaw20_Cut.calls k _ _ l1 t406 _ ?side1 ?side2 A7.out).mono ?_); (case side1 => exact Kd.C_below HR1.out (fB1 GE405)); (case side2 => exact HC1.out); rintro e w53 ⟨v407, rfl, ho0, hb⟩; refine ⟨_, rfl, ?_⟩; have n0_ := Aside0.mk (Kd.V_elder' (by (with_reducible repeat (first | apply Kd.V_alloc | apply Kd.V_drewN | apply Kd.V_drew)); exact (Kd.V_mono (Kd.V_far (p := ⟨gb405, 1, none⟩) (Kd.V_far (p := ⟨gb405, 0, none⟩) (Kd.V_mono HO398.out (fun k_ hk => (⟨hk, hk.2⟩ : _ ∧ k_ ≠ gb405))) (fun _ hk => hk.2) (.slice Ao50 t399.length co50)) (fun _ hk => hk.2) (.slice Ao52 t402.length co52)) (fun _ h_ => h_.1))) (Kd.R_base ho0) hb); have n1_ := Aside0.mk (Kd.R_below (by (with_reducible repeat (first | apply Kd.R_alloc | apply Kd.R_drewN | apply Kd.R_drew)); exact (Kd.R_mono (Kd.R_far (p := ⟨gb405, 1, none⟩) (Kd.R_far (p := ⟨gb405, 0, none⟩) (Kd.R_types HO401.out BK405.out (by decide)) (fun _ hk => hk.2) (.slice Ao50 t399.length co50)) (fun _ hk => hk.2) (.slice Ao52 t402.length co52)) (fun _ h_ => h_.1))) hb); have n2_ := Aside0.mk (Kd.R_below (by (with_reducible repeat (first | apply Kd.R_alloc | apply Kd.R_drewN | apply Kd.R_drew)); exact (Kd.R_mono (Kd.R_far (p := ⟨gb405, 1, none⟩) (Kd.R_far (p := ⟨gb405, 0, none⟩) (Kd.R_types HO404.out BK405.out (by decide)) (fun _ hk => hk.2) (.slice Ao50 t399.length co50)) (fun _ hk => hk.2) (.slice Ao52 t402.length co52)) (fun _ h_ => h_.1))) hb); have n3_ := Aside0.mk (Kd.R_lower ho0 (below_size (fB1 GE405))); have n4_ := Aside0.mk (blk_below (g := gb405) (o := .cells #[.slice Ao50 t399.length co50, .slice Ao52 t402.length co52] 28 (0, 0)) (by (with_reducible repeat (first | refine blk_drewN ?_ _ | refine blk_drew ?_ | refine blk_alloc ?_ _)); refine blk_put (cs := #[.slice Ao50 t399.length co50, .slice none 0 0]) ?_ 1 _ rfl; (with_reducible repeat (first | refine blk_drewN ?_ _ | refine blk_drew ?_ | refine blk_alloc ?_ _)); refine blk_put (cs := #[.slice none 0 0, .slice none 0 0]) ?_ 0 _ rfl; (with_reducible repeat (first | refine blk_drewN ?_ _ | refine blk_drew ?_ | refine blk_alloc ?_ _)); exact BK405.out) hb); have n5_ := Aside0.mk (below_step (fB1 GE405) hb); clear HO398; clear HO401; clear HO404; clear BK405; clear HB; have HO398 := n0_; have HO401 := n1_; have HO404 := n2_; have HO408 := n3_; have BK405 := n4_; have HB := n5_; clear n0_ n1_ n2_ n3_ n4_ n5_; (try clear hb); (try clear hb2); (try clear hk); (try clear hi); (try clear ho0)))
   have n0_ := Aside0.mk (Kd.V_drew HO398.out)
   have n1_ := Aside0.mk (Kd.R_drew HO401.out)
   have n2_ := Aside0.mk (Kd.R_drew HO404.out)
   have n3_ := Aside0.mk (Kd.R_drew HO408.out)
   have n4_ := Aside0.mk (blk_drew BK405.out)
   have n5_ := Aside0.mk (below_drew1 HB.out)
   clear HO398
   clear HO401
   clear HO404
   clear HO408
   clear BK405
   clear HB
   have HO398 := n0_
   have HO401 := n1_
   have HO404 := n2_
   have HO408 := n3_
   have BK405 := n4_
   have HB := n5_
   clear n0_ n1_ n2_ n3_ n4_ n5_
   obtain ⟨Ao55, co55, eo55⟩ := Kd.R_slice HO408.out
   (first | subst eo55 | (injection eo55 with f1_ f2_ f3_; have f4_ := f1_.symm; have f5_ := f3_.symm; clear f1_ f2_ f3_; subst f4_; subst f5_))
   refine start_ (n := 8) (S := fun w' => w'.cell? ⟨gb405, 0, none⟩ = some (.slice Ao50 t399.length co50) ∧ w'.cell? ⟨gb405, 1, none⟩ = some (.slice Ao52 t402.length co52)) (ds := []) #[false, false, false, false, false, false, false, false] (by kernel_rfl) rfl rfl ⟨(blk_cell BK405.out 0).trans rfl, (blk_cell BK405.out 1).trans rfl⟩ (fun hHeld => ?_); refine with_tabW conciergelaw20_OrderSort.tab6 conciergelaw20_OrderSort.bits6 (fun HT_ HW_ => ?_)
   generalize w53.drew = w54 at HO398 HO401 HO404 HO408 BK405 HB hHeld ⊢
   refine pure_ (i := 1) (N := some 20) (v := ?_) (a' := ?_) #[false, true, false, false, false, false, false, false] rfl rfl (any_of HT_.out (by kernel_rfl)) (fun _ _ _ h => h) (Or.inl ⟨by rfl, ?_⟩) ?_ ?_
   rotate_left
   ·intro w'
    go_simp
    with_reducible rfl
   rotate_left
   ·simp only [Act.put, List.setIfInBounds_toArray, List.set_cons_zero, List.set_cons_succ, i64_w, i32_w]
    rfl
   refine pure_ (i := 4) (N := some 23) (v := ?_) (a' := ?_) #[false, true, false, false, true, false, false, false] rfl rfl (any_of HT_.out (by kernel_rfl)) (fun _ _ _ h => h) (Or.inl ⟨by rfl, ?_⟩) ?_ ?_
   rotate_left
   ·intro w'
    go_simp
    with_reducible rfl
   rotate_left
   ·simp only [Act.put, List.setIfInBounds_toArray, List.set_cons_zero, List.set_cons_succ, i64_w, i32_w]
    rfl
   refine take_ (i := 0) (N := some 19) (v := ?_) (a' := ?_) #[true, true, false, false, true, false, false, false] rfl rfl (take_ofW HT_.out HW_.out (by kernel_rfl)) (fun _ _ _ h => h) (Or.inl ⟨by rfl, ?_⟩) hHeld ?_ ?_
   rotate_left
   ·rintro w' ⟨s0, s1⟩
    go_simp
    with_reducible rfl
   rotate_left
   ·simp only [Act.put, List.setIfInBounds_toArray, List.set_cons_zero, List.set_cons_succ, i64_w, i32_w]
    rfl
   refine take_ (i := 3) (N := some 22) (v := ?_) (a' := ?_) #[true, true, false, true, true, false, false, false] rfl rfl (take_ofW HT_.out HW_.out (by kernel_rfl)) (fun _ _ _ h => h) (Or.inl ⟨by rfl, ?_⟩) hHeld ?_ ?_
   rotate_left
   ·rintro w' ⟨s0, s1⟩
    go_simp
    with_reducible rfl
   rotate_left
   ·simp only [Act.put, List.setIfInBounds_toArray, List.set_cons_zero, List.set_cons_succ, i64_w, i32_w]
    rfl
   refine one_ (i := 2) (N := some 21) #[true, true, true, true, true, false, false, false] rfl rfl (one_of HT_.out (by kernel_rfl)) (by decide) (fun K hK => ?_)
   refine goes_ Try.func11 (by kernel_rfl) rfl #[.agg #[.slice Ao50 t399.length co50, .slice Ao52 t402.length co52], .slice Ao55 t406.length co55] (by rfl) rfl rfl s2_ ?_
   with_reducible refine (order_Sort.calls k _ _ t399 _ _ t402 _ _ t406 t409 _ ?side1 ?side2 ?side3 ?side4 ?side5 ?side6 A8.out).mono ?_
   (case side1 => repeat (first | exact (Kd.R_reads' HO401.out).2.2 | (with_reducible refine Kd.C_alloc ?_ _) | (with_reducible refine Kd.C_drewN ?_ _) | (with_reducible refine Kd.C_drew ?_)))
   (case side2 => exact (Kd.R_reads' HO401.out).2.1)
   (case side3 => repeat (first | exact (Kd.R_reads' HO404.out).2.2 | (with_reducible refine Kd.C_alloc ?_ _) | (with_reducible refine Kd.C_drewN ?_ _) | (with_reducible refine Kd.C_drew ?_)))
   (case side4 => exact (Kd.R_reads' HO404.out).2.1)
   (case side5 => repeat (first | exact (Kd.R_reads' HO408.out).2.2 | (with_reducible refine Kd.C_alloc ?_ _) | (with_reducible refine Kd.C_drewN ?_ _) | (with_reducible refine Kd.C_drew ?_)))
   (case side6 => exact (Kd.R_reads' HO408.out).2.1)
   rintro e w56 ⟨v410, rfl, ho0, hb⟩
   refine ⟨_, rfl, ?_⟩
   have n0_ := Aside0.mk (Kd.V_elder' (fA3 HO398) (Kd.R_base ho0) hb)
   have n1_ := Aside0.mk (Kd.R_below (fA0 HO401) hb)
   have n2_ := Aside0.mk (Kd.R_below (fA0 HO404) hb)
   have n3_ := Aside0.mk (Kd.R_elder' (fA0 HO408) (Kd.R_base ho0) hb)
   have n4_ := Aside0.mk (Kd.R_lower (Kd.R_new' ho0 (Kd.R_lt (fA0 HO408))) (below_size (fB1 GE405)))
   have n5_ := Aside0.mk (blk_below (g := gb405) (o := .cells #[.slice Ao50 t399.length co50, .slice Ao52 t402.length co52] 28 (0, 0)) (fA1 BK405) hb)
   have n6_ := Aside0.mk (below_step (fB1 GE405) hb)
   clear HO398
   clear HO401
   clear HO404
   clear HO408
   clear BK405
   clear HB
   have HO398 := n0_
   have HO401 := n1_
   have HO404 := n2_
   have HO408 := n3_
   have HO411 := n4_
   have BK405 := n5_
   have HB := n6_
   clear n0_ n1_ n2_ n3_ n4_ n5_ n6_
   (try clear hb)
   (try clear hb2)
   (try clear hk)
   (try clear hi)
   (try clear ho0)
   refine hK.out _ _ ⟨(blk_cell BK405.out 0).trans rfl, (blk_cell BK405.out 1).trans rfl⟩ (fun hHeld => ?_)
   clear hK K
   refine norm_ (a' := ?_) ?_ ?_
   rotate_left
   ·show Act.put _ (some 21) _ = _
    simp only [Act.put, List.setIfInBounds_toArray, List.set_cons_zero, List.set_cons_succ, i64_w, i32_w]
    rfl
   refine one_ (i := 5) (N := some 24) #[true, true, true, true, true, true, false, false] rfl rfl (one_of HT_.out (by kernel_rfl)) (by decide) (fun K hK => ?_)
   refine goes_ Try.func12 (by kernel_rfl) rfl #[.agg #[.slice Ao50 t399.length co50, .slice Ao52 t402.length co52], .slice Ao55 t406.length co55] (by rfl) rfl rfl s2_ ?_
   with_reducible refine (conciergeref15_Sort.calls k _ _ t399 _ _ t402 _ _ t406 t412 _ ?side1 ?side2 ?side3 ?side4 ?side5 ?side6 A9.out).mono ?_
   (case side1 => repeat (first | exact (Kd.R_reads' HO401.out).2.2 | (with_reducible refine Kd.C_alloc ?_ _) | (with_reducible refine Kd.C_drewN ?_ _) | (with_reducible refine Kd.C_drew ?_)))
   (case side2 => exact (Kd.R_reads' HO401.out).2.1)
   (case side3 => repeat (first | exact (Kd.R_reads' HO404.out).2.2 | (with_reducible refine Kd.C_alloc ?_ _) | (with_reducible refine Kd.C_drewN ?_ _) | (with_reducible refine Kd.C_drew ?_)))
   (case side4 => exact (Kd.R_reads' HO404.out).2.1)
   (case side5 => repeat (first | exact (Kd.R_reads' HO408.out).2.2 | (with_reducible refine Kd.C_alloc ?_ _) | (with_reducible refine Kd.C_drewN ?_ _) | (with_reducible refine Kd.C_drew ?_)))
   (case side6 => exact (Kd.R_reads' HO408.out).2.1)
   rintro e w57 ⟨v413, rfl, ho0, hb⟩
   refine ⟨_, rfl, ?_⟩
   have n0_ := Aside0.mk (Kd.V_elder' (fA3 HO398) (Kd.R_base ho0) hb)
   have n1_ := Aside0.mk (Kd.R_below (fA0 HO401) hb)
   have n2_ := Aside0.mk (Kd.R_below (fA0 HO404) hb)
   have n3_ := Aside0.mk (Kd.R_elder' (fA0 HO408) (Kd.R_base ho0) hb)
   have n4_ := Aside0.mk (Kd.R_elder' (fA0 HO411) (Kd.R_base ho0) hb)
   have n5_ := Aside0.mk (Kd.R_lower (Kd.R_new' (Kd.R_new' ho0 (Kd.R_lt (fA0 HO408))) (Kd.R_lt (fA0 HO411))) (below_size (fB1 GE405)))
   have n6_ := Aside0.mk (blk_below (g := gb405) (o := .cells #[.slice Ao50 t399.length co50, .slice Ao52 t402.length co52] 28 (0, 0)) (fA1 BK405) hb)
   have n7_ := Aside0.mk (below_step (fB1 GE405) hb)
   clear HO398
   clear HO401
   clear HO404
   clear HO408
   clear HO411
   clear BK405
   clear HB
   have HO398 := n0_
   have HO401 := n1_
   have HO404 := n2_
   have HO408 := n3_
   have HO411 := n4_
   have HO414 := n5_
   have BK405 := n6_
   have HB := n7_
   clear n0_ n1_ n2_ n3_ n4_ n5_ n6_ n7_
   (try clear hb)
   (try clear hb2)
   (try clear hk)
   (try clear hi)
   (try clear ho0)
   refine hK.out _ _ ⟨(blk_cell BK405.out 0).trans rfl, (blk_cell BK405.out 1).trans rfl⟩ (fun hHeld => ?_)
   clear hK K
   refine norm_ (a' := ?_) ?_ ?_
   rotate_left
   ·show Act.put _ (some 24) _ = _
    simp only [Act.put, List.setIfInBounds_toArray, List.set_cons_zero, List.set_cons_succ, i64_w, i32_w]
    rfl
   refine pure_ (i := 6) (N := some 8) (v := ?_) (a' := ?_) #[true, true, true, true, true, true, true, false] rfl rfl (any_of HT_.out (by kernel_rfl)) (fun _ _ _ h => h) (Or.inl ⟨by rfl, ?_⟩) ?_ ?_
   rotate_left
   ·intro w'
    go_simp
    with_reducible rfl
   rotate_left
   ·simp only [Act.put, List.setIfInBounds_toArray, List.set_cons_zero, List.set_cons_succ, i64_w, i32_w]
    rfl
   refine pure_ (i := 7) (N := some 9) (v := ?_) (a' := ?_) #[true, true, true, true, true, true, true, true] rfl rfl (any_of HT_.out (by kernel_rfl)) (fun _ _ _ h => h) (Or.inl ⟨by rfl, ?_⟩) ?_ ?_
   rotate_left
   ·intro w'
    go_simp
    with_reducible rfl
   rotate_left
   ·simp only [Act.put, List.setIfInBounds_toArray, List.set_cons_zero, List.set_cons_succ, i64_w, i32_w]
    rfl
   refine done_ (done_of HT_.out (by kernel_rfl)) ?_
   obtain ⟨Ao58, co58, eo58⟩ := Kd.R_slice HO411.out
   subst eo58
   obtain ⟨Ao59, co59, eo59⟩ := Kd.R_slice HO414.out
   subst eo59
   try go_wp2
   go_ret
   exact ⟨by first | rfl | (simp [errW_none, errW_some] <;> rfl) | (simp [*, errW_none, errW_some] <;> rfl), (fB1 GE405)⟩
 ·replace c4 := Bool.eq_false_iff.mpr c4
  subst c4
  rw [if_neg (show ¬ (false = true) by decide)] at H
  obtain rfl := Option.some.inj H
  go_enter Try.func3, Try.ntmps3
  go_wp2_with (first | ((with_reducible refine gate_callee (f := 7) rfl ?_); refine goesL_ (some 11) rfl rfl Try.func7 (by kernel_rfl) rfl #[] rfl s2_ ?_; (with_reducible refine (conciergelaw20_begun.calls k  false _ A3.out).mono ?_); rintro e w60 ⟨rfl, hb⟩; refine ⟨_, rfl, ?_⟩; have n0_ := Aside0.mk (below_step (fB0) hb); clear HB; have HB := n0_; clear n0_; (try clear hb); (try clear hb2); (try clear hk); (try clear hi)))
  go_ret
  exact ⟨by first | rfl | (simp [errW_none, errW_some] <;> rfl) | (simp [*, errW_none, errW_some] <;> rfl), (fB0)⟩
end Go.Proofs.Ytlfhahnceeoegaa.All
end
section
set_option linter.unusedVariables false
set_option linter.unusedSimpArgs false
namespace Go.Proofs.Ytlfhahnceeoegaa.All
open Go.RowKit Go.Proofs.YtlfhahnceeoegaaW.PrintWords Go.Proofs.YtlfhahnceeoegaaW.PrintLast Go.Proofs.YtlfhahnceeoegaaW.PrintMore
theorem lz_some (x : Int) (h0 : 0 ≤ x) (h1 : x ≤ 255) : ∃ r, bits_LeadingZeros8.f x = some r := by
 unfold bits_LeadingZeros8.f bits_Len8.f
 rw [if_pos h0, if_pos h1]
 exact ⟨_, rfl⟩
theorem bt_xor (a b : ByteArray) (i : Int) : 0 ≤ Go.bits .xor .u8 (bt a i) (bt b i) ∧ Go.bits .xor .u8 (bt a i) (bt b i) ≤ 255 := by
 have h1 := bt_range a i
 have h2 := bt_range b i
 rw [u8_xor _ _ (by omega) (by omega) (by omega) (by omega)]
 have h3 : (bt a i).toNat ^^^ (bt b i).toNat < 2 ^ 8 := Nat.xor_lt_two_pow (by omega) (by omega)
 omega
theorem w_succ (i n : Nat) (h : i < n) (hn : n ≤ 4611686018427387904) : wrap64 ((i : Int) + 1) = ((i + 1 : Nat) : Int) := by
 unfold wrap64
 omega
theorem common_l (a b : ByteArray) (hs : a.size = b.size) (hn : a.size ≤ 4611686018427387904) : ∀ (d i : Nat), a.size - i = d → ∃ r, Ev (fun k => addr_Common.l0 k a b (a.size : Int) (i : Int)) r
 | 0, i, h => ⟨_, Ev.step (f := fun _ => some (wrap64 (8 * (a.size : Int)))) (fun k => by simp only [addr_Common.l0]; rw [if_neg (by omega)]) (Ev.now _)⟩
 | d + 1, i, h => by
  have hlt : i < a.size := by omega
  by_cases hz : Go.bits .xor .u8 (bt a i) (bt b i) = 0
  ·obtain ⟨r, hr⟩ := common_l a b hs hn d (i + 1) (by omega)
   refine ⟨r, Ev.step (fun k => ?_) hr⟩
   simp only [addr_Common.l0]
   rw [if_pos (by omega), if_pos (by omega), if_pos (by omega), if_pos (by omega), if_pos hz, w_succ i _ hlt hn]
  ·obtain ⟨z, hl⟩ := lz_some _ (bt_xor a b i).1 (bt_xor a b i).2
   refine ⟨_, Ev.step (f := fun _ => some (wrap64 ((wrap64 (8 * (i : Int))) + z))) (fun k => ?_) (Ev.now _)⟩
   simp only [addr_Common.l0]
   rw [if_pos (by omega), if_pos (by omega), if_pos (by omega), if_pos (by omega), if_neg hz, hl]
   rfl
theorem is_some (a : ByteArray) : addr_Is.f a = some (decide (a.size = 4 ∨ a.size = 16)) := by
 unfold addr_Is.f
 by_cases h : a.size = 4
 ·rw [if_pos (by omega)]; simp [h]
 ·rw [if_neg (by omega)]
  by_cases h2 : a.size = 16
  ·simp [h, h2]
  ·simp [h, h2]; omega
theorem common_j (a b : ByteArray) (hs : a.size = b.size) (hn : a.size ≤ 4611686018427387904) (t : Bool) : ∃ r, Ev (fun k => addr_Common.j0 k a b t) r := by
 cases t with
 | true => exact ⟨_, Ev.step (f := fun _ => some 0) (fun k => by simp [addr_Common.j0]) (Ev.now _)⟩
 | false =>
  obtain ⟨r, hr⟩ := common_l a b hs hn _ 0 rfl
  exact ⟨r, Ev.step (fun k => by simp only [addr_Common.j0]; rw [if_neg (by decide)]; rfl) hr⟩
theorem common_some (a b : ByteArray) : ∃ r, Ev (fun k => addr_Common.f k a b) r := by
 by_cases hs : a.size = b.size
 ·by_cases hi : a.size = 4 ∨ a.size = 16
  ·obtain ⟨r, hr⟩ := common_j a b hs (by omega) false
   refine ⟨r, Ev.congr (fun k => ?_) hr⟩
   unfold addr_Common.f
   rw [if_pos (by omega), is_some, decide_eq_true hi]
   rfl
  ·refine ⟨0, Ev.congr (f := fun k => addr_Common.j0 k a b true) (fun k => ?_) (Ev.step (f := fun _ => some 0) (fun k => by simp [addr_Common.j0]) (Ev.now _))⟩
   unfold addr_Common.f
   rw [if_pos (by omega), is_some, decide_eq_false hi]
   rfl
 ·refine ⟨0, Ev.congr (f := fun k => addr_Common.j0 k a b true) (fun k => ?_) (Ev.step (f := fun _ => some 0) (fun k => by simp [addr_Common.j0]) (Ev.now _))⟩
  unfold addr_Common.f
  rw [if_neg (by omega)]
theorem in_some (a b : ByteArray) (n : Int) : ∃ r, Ev (fun k => addr_In.f k a b n) r := by
 obtain ⟨c, K, hK⟩ := common_some a b
 by_cases h1 : (a.size : Int) = (b.size : Int)
 ·by_cases h2 : a.size = 4 ∨ a.size = 16
  ·by_cases h3 : n ≥ 0
   ·by_cases h4 : n ≤ wrap64 (8 * (a.size : Int))
    ·refine ⟨decide (c ≥ n), K, fun k hk => ?_⟩
     show addr_In.f k a b n = _
     unfold addr_In.f
     rw [if_pos h1, is_some, decide_eq_true h2]
     simp only [Option.bind_some, if_true]
     rw [if_pos h3, if_pos h4, show addr_Common.f k a b = some c from hK k hk]
     rfl
    ·refine ⟨false, 0, fun k _ => ?_⟩
     show addr_In.f k a b n = _
     unfold addr_In.f
     rw [if_pos h1, is_some, decide_eq_true h2]
     simp only [Option.bind_some, if_true]
     rw [if_pos h3, if_neg h4]
   ·refine ⟨false, 0, fun k _ => ?_⟩
    show addr_In.f k a b n = _
    unfold addr_In.f
    rw [if_pos h1, is_some, decide_eq_true h2]
    simp only [Option.bind_some, if_true]
    rw [if_neg h3]
  ·refine ⟨false, 0, fun k _ => ?_⟩
   show addr_In.f k a b n = _
   unfold addr_In.f
   rw [if_pos h1, is_some, decide_eq_false h2]
   rfl
 ·refine ⟨false, 0, fun k _ => ?_⟩
  show addr_In.f k a b n = _
  unfold addr_In.f
  rw [if_neg h1]
theorem wide_some (a : ByteArray) : ∃ r, selecttab_wide.f a = some r := by
 unfold selecttab_wide.f
 by_cases h : (a.size : Int) = 4
 ·rw [if_pos h, if_pos (by omega)]; exact ⟨_, rfl⟩
 ·rw [if_neg h]; exact ⟨_, rfl⟩
theorem row_l (a : ByteArray) (R : List S52) (hn : R.length ≤ 4611686018427387904) : ∀ (d i : Nat) (x y z : Int), R.length - i = d → ∃ r, Ev (fun k => selecttab_Row.l0 k a x y z R (R.length : Int) (i : Int)) r
 | 0, i, x, y, z, h => ⟨_, Ev.step (f := fun _ => some (x, y)) (fun k => by simp only [selecttab_Row.l0]; rw [if_neg (by omega)]) (Ev.now _)⟩
 | d + 1, i, x, y, z, h => by
  have hlt : i < R.length := by omega
  obtain ⟨w, hw⟩ := wide_some a
  obtain ⟨t, ht⟩ := in_some w (rd_T52 R i).f0 (rd_T52 R i).f1
  have hs := w_succ i _ hlt hn
  cases t with
  | false =>
   obtain ⟨r, hr⟩ := row_l a R hn d (i + 1) x y z (by omega)
   refine ⟨r, Ev.step (f := fun k => (addr_In.f k w (rd_T52 R i).f0 (rd_T52 R i).f1).bind fun t => if t = true then (if ((rd_T52 R i).f1) > z then (selecttab_Row.l0 k a ((rd_T52 R i).f2) ((rd_T52 R i).f3) ((rd_T52 R i).f1) R (R.length : Int) ((i + 1 : Nat) : Int)) else (selecttab_Row.l0 k a x y z R (R.length : Int) ((i + 1 : Nat) : Int))) else (selecttab_Row.l0 k a x y z R (R.length : Int) ((i + 1 : Nat) : Int))) (fun k => ?_) (Ev.bind ht (Ev.congr (fun k => ?_) hr))⟩
   ·simp only [selecttab_Row.l0]
    rw [if_pos (by omega), if_pos (by omega), if_pos (by omega), hw, hs]
    rfl
   ·rw [if_neg (by decide)]
  | true =>
   by_cases hg : ((rd_T52 R i).f1) > z
   ·obtain ⟨r, hr⟩ := row_l a R hn d (i + 1) ((rd_T52 R i).f2) ((rd_T52 R i).f3) ((rd_T52 R i).f1) (by omega)
    refine ⟨r, Ev.step (f := fun k => (addr_In.f k w (rd_T52 R i).f0 (rd_T52 R i).f1).bind fun t => if t = true then (if ((rd_T52 R i).f1) > z then (selecttab_Row.l0 k a ((rd_T52 R i).f2) ((rd_T52 R i).f3) ((rd_T52 R i).f1) R (R.length : Int) ((i + 1 : Nat) : Int)) else (selecttab_Row.l0 k a x y z R (R.length : Int) ((i + 1 : Nat) : Int))) else (selecttab_Row.l0 k a x y z R (R.length : Int) ((i + 1 : Nat) : Int))) (fun k => ?_) (Ev.bind ht (Ev.congr (fun k => ?_) hr))⟩
    ·simp only [selecttab_Row.l0]
     rw [if_pos (by omega), if_pos (by omega), if_pos (by omega), hw, hs]
     rfl
    ·rw [if_pos rfl, if_pos hg]
   ·obtain ⟨r, hr⟩ := row_l a R hn d (i + 1) x y z (by omega)
    refine ⟨r, Ev.step (f := fun k => (addr_In.f k w (rd_T52 R i).f0 (rd_T52 R i).f1).bind fun t => if t = true then (if ((rd_T52 R i).f1) > z then (selecttab_Row.l0 k a ((rd_T52 R i).f2) ((rd_T52 R i).f3) ((rd_T52 R i).f1) R (R.length : Int) ((i + 1 : Nat) : Int)) else (selecttab_Row.l0 k a x y z R (R.length : Int) ((i + 1 : Nat) : Int))) else (selecttab_Row.l0 k a x y z R (R.length : Int) ((i + 1 : Nat) : Int))) (fun k => ?_) (Ev.bind ht (Ev.congr (fun k => ?_) hr))⟩
    ·simp only [selecttab_Row.l0]
     rw [if_pos (by omega), if_pos (by omega), if_pos (by omega), hw, hs]
     rfl
    ·rw [if_pos rfl, if_neg hg]
theorem row_some (R : List S52) (O : List ByteArray) (hn : R.length ≤ 4611686018427387904) (a : ByteArray) : ∃ r, Ev (fun k => selecttab_Row.f k R O a) r := by
 by_cases h : a.size = 4 ∨ a.size = 16
 ·obtain ⟨r, hr⟩ := row_l a R hn _ 0 1 40 (-1) rfl
  refine ⟨r, Ev.congr (fun k => ?_) hr⟩
  unfold selecttab_Row.f
  rw [is_some, decide_eq_true h]
  rfl
 ·refine ⟨(1, 40), Ev.congr (fun k => ?_) (Ev.now _)⟩
  unfold selecttab_Row.f
  rw [is_some, decide_eq_false h]
  rfl
theorem scope_j1 (a : ByteArray) (h : a.size = 16) (t : Bool) : ∃ r, Ev (fun k => selecttab_Scope.j1 k a t) r := by
 refine ⟨_, Ev.step (f := fun _ => if t = true then (some 2) else (if (bt a 0) = 255 then (some (wrap64 (Go.bits .and .u8 (bt a 1) 15))) else (some 14))) (fun k => ?_) (r := if t = true then 2 else (if (bt a 0) = 255 then (wrap64 (Go.bits .and .u8 (bt a 1) 15)) else 14)) ⟨0, fun k _ => ?_⟩⟩
 ·simp only [selecttab_Scope.j1]
  rw [if_pos (show 0 < (a.size : Int) by omega), if_pos (show 1 < (a.size : Int) by omega)]
 ·split
  ·rfl
  ·split <;> rfl
theorem scope_j0 (a : ByteArray) (t : Bool) : ∃ r, Ev (fun k => selecttab_Scope.j0 k a t) r := by
 cases t with
 | true => exact ⟨2, Ev.step (f := fun _ => some 2) (fun k => by simp [selecttab_Scope.j0]) (Ev.now _)⟩
 | false =>
  by_cases h4 : (a.size : Int) = 4
  ·exact ⟨14, Ev.step (f := fun _ => some 14) (fun k => by simp only [selecttab_Scope.j0]; rw [if_neg (by decide), if_pos h4]) (Ev.now _)⟩
  ·by_cases h16 : (a.size : Int) = 16
   ·by_cases hb : a.toList = ([0, 0, 0, 0, 0, 0, 0, 0, 0, 0, 0, 0, 0, 0, 0, 1] : List UInt8)
    ·obtain ⟨r, hr⟩ := scope_j1 a (by omega) true
     exact ⟨r, Ev.step (fun k => by simp only [selecttab_Scope.j0]; rw [if_neg (by decide), if_neg h4, if_pos h16, if_pos hb]) hr⟩
    ·by_cases h254 : bt a 0 = 254
     ·obtain ⟨r, hr⟩ := scope_j1 a (by omega) ((Go.bits .and .u8 (bt a 1) 192) == 128)
      exact ⟨r, Ev.step (fun k => by simp only [selecttab_Scope.j0]; rw [if_neg (by decide), if_neg h4, if_pos h16, if_neg hb, if_pos (by omega), if_pos h254, if_pos (by omega)]) hr⟩
     ·obtain ⟨r, hr⟩ := scope_j1 a (by omega) false
      exact ⟨r, Ev.step (fun k => by simp only [selecttab_Scope.j0]; rw [if_neg (by decide), if_neg h4, if_pos h16, if_neg hb, if_pos (by omega), if_neg h254]) hr⟩
   ·exact ⟨0, Ev.step (f := fun _ => some 0) (fun k => by simp only [selecttab_Scope.j0]; rw [if_neg (by decide), if_neg h4, if_neg h16]) (Ev.now _)⟩
theorem scope_some (a : ByteArray) : ∃ r, Ev (fun k => selecttab_Scope.f k a) r := by
 by_cases h4 : (a.size : Int) = 4
 ·by_cases h127 : bt a 0 = 127
  ·obtain ⟨r, hr⟩ := scope_j0 a true
   exact ⟨r, Ev.congr (fun k => by unfold selecttab_Scope.f; rw [if_pos h4, if_pos (by omega), if_pos h127]) hr⟩
  ·by_cases h169 : bt a 0 = 169
   ·obtain ⟨r, hr⟩ := scope_j0 a ((bt a 1) == 254)
    exact ⟨r, Ev.congr (fun k => by unfold selecttab_Scope.f; rw [if_pos h4, if_pos (by omega), if_neg h127, if_pos h169, if_pos (by omega)]) hr⟩
   ·obtain ⟨r, hr⟩ := scope_j0 a false
    exact ⟨r, Ev.congr (fun k => by unfold selecttab_Scope.f; rw [if_pos h4, if_pos (by omega), if_neg h127, if_neg h169]) hr⟩
 ·obtain ⟨r, hr⟩ := scope_j0 a false
  exact ⟨r, Ev.congr (fun k => by unfold selecttab_Scope.f; rw [if_neg h4]) hr⟩
theorem worse_some (b : Bool) : order_worse.f b = some (if b = true then 1 else 0) := by
 unfold order_worse.f
 split <;> rfl
theorem keys_some (R : List S52) (O : List ByteArray) (hn : R.length ≤ 4611686018427387904) (p q : ByteArray) : ∃ r, Ev (fun k => order_Keys.f k R O p q) r := by
 obtain ⟨r1, e1⟩ := row_some R O hn p
 obtain ⟨r2, e2⟩ := row_some R O hn q
 obtain ⟨s1, e3⟩ := scope_some p
 obtain ⟨s2, e4⟩ := scope_some q
 obtain ⟨c, e5⟩ := common_some p q
 obtain ⟨K1, h1⟩ := e1
 obtain ⟨K2, h2⟩ := e2
 obtain ⟨K3, h3⟩ := e3
 obtain ⟨K4, h4⟩ := e4
 obtain ⟨K5, h5⟩ := e5
 by_cases hq : q.toList = ([] : List UInt8)
 ·refine ⟨(if (q.toList == ([] : List UInt8)) = true then 1 else 0, if true = true then 1 else 0, if true = true then 1 else 0, wrap64 (-r1.2), s1, wrap64 (-c)), K1 + K2 + K3 + K4 + K5, fun k hk => ?_⟩
  show order_Keys.f k R O p q = _
  unfold order_Keys.f
  rw [show selecttab_Row.f k R O p = some r1 from h1 k (by omega), show selecttab_Row.f k R O q = some r2 from h2 k (by omega), show selecttab_Scope.f k p = some s1 from h3 k (by omega), show addr_Common.f k p q = some c from h5 k (by omega)]
  simp only [Option.bind_some, worse_some]
  rw [if_pos hq]
 ·refine ⟨(if (q.toList == ([] : List UInt8)) = true then 1 else 0, if (s1 != s2) = true then 1 else 0, if (r1.1 != r2.1) = true then 1 else 0, wrap64 (-r1.2), s1, wrap64 (-c)), K1 + K2 + K3 + K4 + K5, fun k hk => ?_⟩
  show order_Keys.f k R O p q = _
  unfold order_Keys.f
  rw [show selecttab_Row.f k R O p = some r1 from h1 k (by omega), show selecttab_Row.f k R O q = some r2 from h2 k (by omega), show selecttab_Scope.f k p = some s1 from h3 k (by omega), show selecttab_Scope.f k q = some s2 from h4 k (by omega), show addr_Common.f k p q = some c from h5 k (by omega)]
  simp only [Option.bind_some, worse_some]
  rw [if_neg hq]
end Go.Proofs.Ytlfhahnceeoegaa.All
end
section
set_option linter.unusedVariables false
set_option linter.unusedSimpArgs false
namespace Go.Proofs.Ytlfhahnceeoegaa.All
open Go.Proofs Go.Sort
def cmpL : List Int → List Int → Int
 | x :: xs, y :: ys => if ci x y = 0 then cmpL xs ys else ci x y
 | _, _ => 0
theorem cmp6_eq (a b : S35) : cmp6 a b = cmpL (six a) (six b) := by
 simp only [cmp6, six, cmpL]
 repeat (first | rfl | split)
theorem ci_lt (x y : Int) : ci x y < 0 ↔ x < y := by unfold ci; split <;> (try split) <;> omega
theorem ci_zero (x y : Int) : ci x y = 0 ↔ x = y := by unfold ci; split <;> (try split) <;> omega
theorem cmpL_refl : ∀ l : List Int, cmpL l l = 0
 | [] => rfl
 | x :: xs => by
  simp only [cmpL]
  rw [if_pos ((ci_zero x x).2 rfl)]
  exact cmpL_refl xs
theorem cmpL_le : ∀ (a b c : List Int), a.length = b.length → b.length = c.length → ¬ cmpL b a < 0 → ¬ cmpL c b < 0 → ¬ cmpL c a < 0
 | [], [], [], _, _, _, _ => by simp [cmpL]
 | x :: xs, y :: ys, z :: zs, h1, h2, h3, h4 => by
  simp only [cmpL] at h3 h4 ⊢
  have hi := cmpL_le xs ys zs (by simpa using h1) (by simpa using h2)
  by_cases e1 : ci y x = 0
  ·have f1 := (ci_zero y x).1 e1
   rw [if_pos e1] at h3
   by_cases e2 : ci z y = 0
   ·have f2 := (ci_zero z y).1 e2
    rw [if_pos e2] at h4
    rw [if_pos ((ci_zero z x).2 (by omega))]
    exact hi h3 h4
   ·rw [if_neg e2] at h4
    have f2 := (not_congr (ci_lt z y)).1 h4
    have g2 := (not_congr (ci_zero z y)).1 e2
    rw [if_neg ((not_congr (ci_zero z x)).2 (by omega))]
    exact (not_congr (ci_lt z x)).2 (by omega)
  ·rw [if_neg e1] at h3
   have f1 := (not_congr (ci_lt y x)).1 h3
   have g1 := (not_congr (ci_zero y x)).1 e1
   have f2 : ¬ z < y := by
    by_cases e2 : ci z y = 0
    ·have := (ci_zero z y).1 e2; omega
    ·rw [if_neg e2] at h4; exact (not_congr (ci_lt z y)).1 h4
   rw [if_neg ((not_congr (ci_zero z x)).2 (by omega))]
   exact (not_congr (ci_lt z x)).2 (by omega)
theorem cmpL_trans : ∀ (a b c : List Int), a.length = b.length → b.length = c.length → cmpL a b < 0 → cmpL b c < 0 → cmpL a c < 0
 | [], [], [], _, _, h, _ => by simp [cmpL] at h
 | x :: xs, y :: ys, z :: zs, h1, h2, h3, h4 => by
  simp only [cmpL] at h3 h4 ⊢
  have hi := cmpL_trans xs ys zs (by simpa using h1) (by simpa using h2)
  by_cases e1 : ci x y = 0
  ·have f1 := (ci_zero x y).1 e1
   rw [if_pos e1] at h3
   by_cases e2 : ci y z = 0
   ·have f2 := (ci_zero y z).1 e2
    rw [if_pos e2] at h4
    rw [if_pos ((ci_zero x z).2 (by omega))]
    exact hi h3 h4
   ·rw [if_neg e2] at h4
    have f2 := (ci_lt y z).1 h4
    rw [if_neg ((not_congr (ci_zero x z)).2 (by omega))]
    exact (ci_lt x z).2 (by omega)
  ·rw [if_neg e1] at h3
   have f1 := (ci_lt x y).1 h3
   have f2 : ¬ z < y := by
    by_cases e2 : ci y z = 0
    ·have := (ci_zero y z).1 e2; omega
    ·rw [if_neg e2] at h4; have := (ci_lt y z).1 h4; omega
   rw [if_neg ((not_congr (ci_zero x z)).2 (by omega))]
   exact (ci_lt x z).2 (by omega)
theorem swo : SWO (ltOf cmpK) where
 irrefl x := by simp [ltOf, cmpK, cmp6_eq, cmpL_refl]
 trans x y z h1 h2 := by
  simp only [ltOf, cmpK, cmp6_eq, decide_eq_true_eq] at h1 h2 ⊢
  exact cmpL_trans (six x.f1) (six y.f1) (six z.f1) rfl rfl h1 h2
 ntrans x y z h1 h2 := by
  simp only [ltOf, cmpK, cmp6_eq, decide_eq_false_iff_not] at h1 h2 ⊢
  exact cmpL_le (six z.f1) (six y.f1) (six x.f1) rfl rfl h2 h1
def isort (l : List S59) : List S59 := insertionS l 0 l.length
theorem isort_length (l : List S59) : (isort l).length = l.length := by
 unfold isort
 rw [insertionS_eq, Array.length_toList, size_insertionSort]
 simp
theorem isort_perm (l : List S59) : (isort l).Perm l := by
 unfold isort
 rw [insertionS_eq]
 have h := (insertionSort_holds (lt := ltOf cmpK) swo l.toArray 0 l.length (Nat.zero_le _) (by simp)).1
 have h2 := h.2.2
 have e1 : (Sort.insertionSort (ltOf cmpK) l.toArray 0 l.length).extract 0 l.length = Sort.insertionSort (ltOf cmpK) l.toArray 0 l.length := Array.extract_eq_self_of_le (by rw [h.1]; simp)
 have e2 : l.toArray.extract 0 l.length = l.toArray := Array.extract_eq_self_of_le (by simp)
 rw [e1, e2] at h2
 simpa using h2
theorem insertionS_none (l : List S59) (a : Nat) : insertionS l a a = l := by
 unfold insertionS
 rw [show a - (a + 1) = 0 by omega]
 simp [insS]
end Go.Proofs.Ytlfhahnceeoegaa.All
end
section
set_option linter.unusedVariables false
set_option linter.unusedSimpArgs false
namespace Go.Proofs.Ytlfhahnceeoegaa.All
open Go.RowKit Go.Proofs.YtlfhahnceeoegaaW.PrintWords Go.Proofs.YtlfhahnceeoegaaW.PrintLast Go.Proofs.YtlfhahnceeoegaaW.PrintMore
theorem ins_some (l : List S59) (a b : Nat) (hab : a ≤ b) (hb : b ≤ l.length) (hl : l.length ≤ 20) : order_keyed_53.f l (a : Int) (b : Int) 26 = some (insertionS l a b) := by
 unfold order_keyed_53.f
 rw [if_pos ⟨rfl, by omega, by omega, by omega, by omega⟩, Int.toNat_natCast, Int.toNat_natCast]
theorem stable_l1 (l : List S59) (n : Nat) (hn : n ≤ 20) : Ev (fun k => order_keyed_43.l1 k l (n : Int) 26 20) l :=
 Ev.step (f := fun _ => some l) (fun k => by simp only [order_keyed_43.l1]; rw [if_neg (by omega)]) (Ev.now _)
theorem stable_some (l : List S59) (hl : l.length ≤ 20) : Ev (fun k => order_keyed_25.f k l 26) (isort l) := by
 unfold order_keyed_25.f
 refine Ev.bind (a := isort l) ?_ (Ev.now _)
 unfold order_keyed_43.f
 by_cases h20 : l.length = 20
 ·have e1 : order_keyed_53.f l 0 20 26 = some (isort l) := by
   have := ins_some l 0 20 (by omega) (by omega) hl
   unfold isort
   rw [h20]
   exact this
  have e2 : order_keyed_53.f (isort l) 20 20 26 = some (isort l) := by
   have := ins_some (isort l) 20 20 (by omega) (by rw [isort_length]; omega) (by rw [isort_length]; omega)
   rw [insertionS_none] at this
   exact this
  rw [h20]
  refine Ev.step (f := fun k => order_keyed_43.l0 k (isort l) ((20 : Nat) : Int) 26 20 20 40) (fun k => ?_) ?_
  ·simp only [order_keyed_43.l0]
   rw [if_pos (by omega), e1, show wrap64 ((20 : Int) + 20) = 40 by unfold wrap64; omega]
   rfl
  ·refine Ev.step (f := fun k => order_keyed_43.l1 k (isort l) ((20 : Nat) : Int) 26 20) (fun k => ?_) (stable_l1 _ _ (by omega))
   simp only [order_keyed_43.l0]
   rw [if_neg (by omega)]
   rw [show (((20 : Nat) : Int)) = 20 from rfl, e2]
   rfl
 ·have e1 : order_keyed_53.f l 0 (l.length : Int) 26 = some (isort l) := ins_some l 0 l.length (by omega) (by omega) hl
  refine Ev.step (f := fun k => order_keyed_43.l1 k (isort l) (l.length : Int) 26 20) (fun k => ?_) (stable_l1 _ _ hl)
  simp only [order_keyed_43.l0]
  rw [if_neg (by omega), e1]
  rfl
theorem collect (M : List S59) (hM : M.length ≤ 20) : ∀ (d i : Nat) (acc : List S34), M.length - i = d → acc.length ≤ i → i ≤ M.length → Ev (fun k => order_Sort.l1 k acc M (M.length : Int) (i : Int)) (acc ++ (M.drop i).map (·.f0))
 | 0, i, acc, h, ha, hi => by
  refine Ev.step (f := fun _ => some acc) (fun k => ?_) ?_
  ·simp only [order_Sort.l1]; rw [if_neg (by omega)]
  ·rw [List.drop_eq_nil_of_le (by omega)]
   simpa using Ev.now acc
 | d + 1, i, acc, h, ha, hi => by
  have hlt : i < M.length := by omega
  have hr := collect M hM d (i + 1) (acc ++ [(rd_T59 M i).f0]) (by omega) (by simp; omega) (by omega)
  have e : acc ++ [(rd_T59 M i).f0] ++ (M.drop (i + 1)).map (·.f0) = acc ++ (M.drop i).map (·.f0) := by
   have hp : rd_T59 M i = M[i] := by simp [rd_T59, List.getD_eq_getElem?_getD, List.getElem?_eq_getElem hlt]
   rw [List.drop_eq_getElem_cons hlt, List.map_cons, hp, List.append_assoc]
   rfl
  rw [e] at hr
  refine Ev.step (fun k => ?_) hr
  simp only [order_Sort.l1]
  rw [if_pos (by omega), if_pos (by omega), if_pos (by omega), if_pos (by omega), w_succ i _ hlt (by omega)]
theorem sort_l0 (R : List S52) (O : List ByteArray) (kd : S34 → S59) (h0 : ∀ p, (kd p).f0 = p) (hk : ∀ p, Ev (fun k => order_Keys.f k R O p.f0 p.f1) ((kd p).f1.f0, (kd p).f1.f1, (kd p).f1.f2, (kd p).f1.f3, (kd p).f1.f4, (kd p).f1.f5))
  (L : List S34) (hL : L.length ≤ 20) : ∀ (d i : Nat) (acc : List S59), L.length - i = d → i ≤ L.length → acc.length = i → Ev (fun k => order_Sort.l0 k acc L (L.length : Int) (i : Int) R O) ((isort (acc ++ (L.drop i).map kd)).map (·.f0))
 | 0, i, acc, h, hi, ha => by
  rw [List.drop_eq_nil_of_le (by omega), List.map_nil, List.append_nil]
  refine Ev.step (f := fun k => (order_keyed_25.f k acc 26).bind fun t => order_Sort.l1 k ([] : List S34) t (acc.length : Int) 0) (fun k => ?_) (Ev.bind (stable_some acc (by omega)) ?_)
  ·simp only [order_Sort.l0]
   rw [if_neg (by omega)]
  ·have := collect (isort acc) (by rw [isort_length]; omega) _ 0 [] rfl (Nat.le_refl _) (Nat.zero_le _)
   rw [isort_length] at this
   simpa using this
 | d + 1, i, acc, h, hi, ha => by
  have hlt : i < L.length := by omega
  have hp : rd_T34 L i = L[i] := by simp [rd_T34, List.getD_eq_getElem?_getD, List.getElem?_eq_getElem hlt]
  have hr := sort_l0 R O kd h0 hk L hL d (i + 1) (acc ++ [kd L[i]]) (by omega) (by omega) (by simp; omega)
  have e : acc ++ [kd L[i]] ++ (L.drop (i + 1)).map kd = acc ++ (L.drop i).map kd := by
   rw [List.drop_eq_getElem_cons hlt, List.map_cons, List.append_assoc]
   rfl
  rw [e] at hr
  refine Ev.step (f := fun k => (order_Keys.f k R O (L[i]).f0 (L[i]).f1).bind fun bt => order_Sort.l0 k (acc ++ [(⟨(⟨(L[i]).f0, (L[i]).f1⟩ : S34), (⟨bt.1, bt.2.1, bt.2.2.1, bt.2.2.2.1, bt.2.2.2.2.1, bt.2.2.2.2.2⟩ : S35)⟩ : S59)]) L (L.length : Int) ((i + 1 : Nat) : Int) R O) (fun k => ?_) (Ev.bind (hk L[i]) ?_)
  ·simp only [order_Sort.l0]
   rw [if_pos (by omega), if_pos (by omega), if_pos (by omega), hp, w_succ i _ hlt (by omega)]
   congr 1
   funext bt
   rw [if_pos (by omega)]
  ·have ek : (⟨(⟨(L[i]).f0, (L[i]).f1⟩ : S34), (⟨(kd L[i]).f1.f0, (kd L[i]).f1.f1, (kd L[i]).f1.f2, (kd L[i]).f1.f3, (kd L[i]).f1.f4, (kd L[i]).f1.f5⟩ : S35)⟩ : S59) = kd L[i] := by
    have := h0 L[i]
    generalize kd L[i] = x at this ⊢
    rw [← this]
   simp only
   rw [ek]
   exact hr
theorem sort_some (R : List S52) (O : List ByteArray) (hn : R.length ≤ 4611686018427387904) : ∃ kd : S34 → S59, (∀ p, (kd p).f0 = p) ∧ (∀ p, Ev (fun k => order_Keys.f k R O p.f0 p.f1) ((kd p).f1.f0, (kd p).f1.f1, (kd p).f1.f2, (kd p).f1.f3, (kd p).f1.f4, (kd p).f1.f5)) ∧
  ∀ L : List S34, L.length ≤ 20 → Ev (fun k => order_Sort.f k R O L) ((isort (L.map kd)).map (·.f0)) := by
 have hk : ∀ p : S34, ∃ x : S59, x.f0 = p ∧ Ev (fun k => order_Keys.f k R O p.f0 p.f1) (x.f1.f0, x.f1.f1, x.f1.f2, x.f1.f3, x.f1.f4, x.f1.f5) := by
  intro p
  obtain ⟨⟨r0, r1, r2, r3, r4, r5⟩, hr⟩ := keys_some R O hn p.f0 p.f1
  exact ⟨⟨p, ⟨r0, r1, r2, r3, r4, r5⟩⟩, rfl, hr⟩
 refine ⟨fun p => Classical.choose (hk p), fun p => (Classical.choose_spec (hk p)).1, fun p => (Classical.choose_spec (hk p)).2, fun L hL => ?_⟩
 exact sort_l0 R O _ (fun p => (Classical.choose_spec (hk p)).1) (fun p => (Classical.choose_spec (hk p)).2) L hL _ 0 [] rfl (Nat.zero_le _) rfl
end Go.Proofs.Ytlfhahnceeoegaa.All
end
section
set_option linter.unusedVariables false
set_option linter.unusedSimpArgs false
set_option maxRecDepth 100000
namespace Go.Proofs.Ytlfhahnceeoegaa.All
open Go.RowKit Go.Proofs.YtlfhahnceeoegaaW.PrintWords Go.Proofs.YtlfhahnceeoegaaW.PrintLast Go.Proofs.YtlfhahnceeoegaaW.PrintMore
def bitN (x j : Nat) : Nat := x / 2 ^ (7 - j) % 2
theorem bitN_test (x j : Nat) : bitN x j = (x.testBit (7 - j)).toNat := by
 unfold bitN
 rw [Nat.testBit_eq_decide_div_mod_eq]
 have : x / 2 ^ (7 - j) % 2 < 2 := Nat.mod_lt _ (by decide)
 by_cases h : x / 2 ^ (7 - j) % 2 = 1
 ·simp [h]
 ·have : x / 2 ^ (7 - j) % 2 = 0 := by omega
  simp [this]
theorem bitN_xor (x y j : Nat) : bitN x j = bitN y j ↔ bitN (x ^^^ y) j = 0 := by
 rw [bitN_test, bitN_test, bitN_test, Nat.testBit_xor]
 cases x.testBit (7 - j) <;> cases y.testBit (7 - j) <;> simp
theorem lz_bits : ∀ z : Fin 256, z.val ≠ 0 → Lib.bitLen z.val ≤ 8 ∧ 1 ≤ Lib.bitLen z.val ∧ (∀ j : Fin 8, j.val < 8 - Lib.bitLen z.val → bitN z.val j.val = 0) ∧ bitN z.val (8 - Lib.bitLen z.val) = 1 := by decide +kernel
theorem w_id (x : Int) (h0 : -4611686018427387904 ≤ x) (h1 : x ≤ 4611686018427387904) : wrap64 x = x := by
 unfold wrap64
 omega
theorem bit_val (a : ByteArray) (i j : Nat) (hi : i < a.size) (hj : j < 8) (hn : a.size ≤ 16) : conciergeref2_bit.f a ((8 * i + j : Nat) : Int) = some ((bitN (bt a i).toNat j : Nat) : Int) := by
 have h1 := bt_range a i
 have e1 : Int.tdiv ((8 * i + j : Nat) : Int) 8 = (i : Int) := by rw [Int.tdiv_eq_ediv_of_nonneg (by omega)]; omega
 have e2 : Int.tmod ((8 * i + j : Nat) : Int) 8 = (j : Int) := by rw [Int.tmod_eq_emod_of_nonneg (by omega)]; omega
 unfold conciergeref2_bit.f
 rw [e1, e2, w_id (i : Int) (by omega) (by omega), w_id (7 - (j : Int)) (by omega) (by omega), w_id (bt a i) (by omega) (by omega)]
 rw [if_pos (by omega), if_pos (by omega), if_pos (by omega)]
 congr 1
 unfold shr bitN
 have e3 : (7 - (j : Int)).toNat = 7 - j := by omega
 rw [e3, Nat.min_eq_left (by show 7 - j ≤ 64; omega)]
 obtain ⟨n, hn'⟩ : ∃ n : Nat, bt a i = (n : Int) := ⟨(bt a i).toNat, by omega⟩
 rw [hn', Int.toNat_natCast, Int.tmod_eq_emod_of_nonneg (Int.ediv_nonneg (by omega) (by exact_mod_cast Nat.zero_le _))]
 push_cast
 rfl
theorem ref_run (a b : ByteArray) (hs : a.size = b.size) (hn : a.size ≤ 16) (i : Nat) (hi : i < a.size) {r : Int} : ∀ (m j : Nat), j + m ≤ 8 → (∀ q, j ≤ q → q < j + m → bitN (bt a i).toNat q = bitN (bt b i).toNat q) →
  Ev (fun k => conciergeref2_Common.l0 k a b ((8 * i + (j + m) : Nat) : Int)) r → Ev (fun k => conciergeref2_Common.l0 k a b ((8 * i + j : Nat) : Int)) r
 | 0, j, _, _, h => h
 | m + 1, j, hj, hq, h => by
  refine Ev.step (fun k => ?_) (ref_run a b hs hn i hi m (j + 1) (by omega) (fun q h1 h2 => hq q (by omega) (by omega)) (by rw [show j + 1 + m = j + (m + 1) by omega]; exact h))
  simp only [conciergeref2_Common.l0]
  rw [w_id (8 * (a.size : Int)) (by omega) (by omega), if_pos (by omega), bit_val a i j hi (by omega) hn, bit_val b i j (by omega) (by omega) (by omega)]
  simp only [Option.bind_some]
  rw [if_pos (by rw [hq j (by omega) (by omega)]), w_id _ (by omega) (by omega)]
  congr 1
theorem common_sync_l (a b : ByteArray) (hs : a.size = b.size) (hn : a.size ≤ 16) : ∀ (d i : Nat), a.size - i = d → i ≤ a.size →
  ∃ r : Int, Ev (fun k => addr_Common.l0 k a b (a.size : Int) (i : Int)) r ∧ Ev (fun k => conciergeref2_Common.l0 k a b ((8 * i : Nat) : Int)) r
 | 0, i, h, hi => by
  refine ⟨((8 * i : Nat) : Int), Ev.step (f := fun _ => some (wrap64 (8 * (a.size : Int)))) (fun k => by simp only [addr_Common.l0]; rw [if_neg (by omega)]) ?_, Ev.step (f := fun _ => some ((8 * i : Nat) : Int)) (fun k => ?_) (Ev.now _)⟩
  ·rw [w_id _ (by omega) (by omega), show (8 * (a.size : Int)) = ((8 * i : Nat) : Int) by omega]
   exact Ev.now _
  ·simp only [conciergeref2_Common.l0]
   rw [w_id (8 * (a.size : Int)) (by omega) (by omega), if_neg (by omega)]
 | d + 1, i, h, hi => by
  have hlt : i < a.size := by omega
  have ha := bt_range a i
  have hb := bt_range b i
  obtain ⟨x, hx⟩ : ∃ x : Nat, bt a i = (x : Int) := ⟨(bt a i).toNat, by omega⟩
  obtain ⟨y, hy⟩ : ∃ y : Nat, bt b i = (y : Int) := ⟨(bt b i).toNat, by omega⟩
  have hz : Go.bits .xor .u8 (bt a i) (bt b i) = ((x ^^^ y : Nat) : Int) := by rw [u8_xor _ _ (by omega) (by omega) (by omega) (by omega), hx, hy]; rfl
  have hz8 : x ^^^ y < 256 := Nat.xor_lt_two_pow (n := 8) (by omega) (by omega)
  have hxn : (bt a i).toNat = x := by omega
  have hyn : (bt b i).toNat = y := by omega
  by_cases h0 : x ^^^ y = 0
  ·obtain ⟨r, h1, h2⟩ := common_sync_l a b hs hn d (i + 1) (by omega) (by omega)
   refine ⟨r, Ev.step (fun k => ?_) h1, ?_⟩
   ·simp only [addr_Common.l0]
    rw [if_pos (by omega), if_pos (by omega), if_pos (by omega), if_pos (by omega), if_pos (by rw [hz, h0]; rfl), w_succ i a.size hlt (by omega)]
   ·refine ref_run a b hs hn i hlt 8 0 (by omega) (fun q _ _ => ?_) ?_
    ·rw [hxn, hyn, bitN_xor, h0]
     simp [bitN]
    ·rw [show 8 * i + (0 + 8) = 8 * (i + 1) by omega]
     exact h2
  ·obtain ⟨l1, l2, l3, l4⟩ := lz_bits ⟨x ^^^ y, hz8⟩ h0
   simp only at l1 l2 l3 l4
   generalize ht : 8 - Lib.bitLen (x ^^^ y) = t at l3 l4
   refine ⟨((8 * i + t : Nat) : Int), Ev.step (f := fun _ => some ((8 * i + t : Nat) : Int)) (fun k => ?_) (Ev.now _), ?_⟩
   ·simp only [addr_Common.l0]
    rw [if_pos (by omega), if_pos (by omega), if_pos (by omega), if_pos (by omega), hz, if_neg (by exact_mod_cast h0)]
    unfold bits_LeadingZeros8.f bits_Len8.f
    rw [if_pos (by omega), if_pos (by omega), Int.toNat_natCast]
    simp only [Option.bind_some]
    rw [w_id (8 - ((Lib.bitLen (x ^^^ y) : Nat) : Int)) (by omega) (by omega), w_id (8 * (i : Int)) (by omega) (by omega), w_id _ (by omega) (by omega)]
    congr 1
    omega
   ·refine ref_run a b hs hn i hlt t 0 (by omega) (fun q _ hq => ?_) ?_
    ·rw [hxn, hyn, bitN_xor]
     exact l3 ⟨q, by omega⟩ (by simp only; omega)
    ·refine Ev.step (f := fun _ => some ((8 * i + (0 + t) : Nat) : Int)) (fun k => ?_) (by rw [Nat.zero_add]; exact Ev.now _)
     simp only [conciergeref2_Common.l0]
     rw [w_id (8 * (a.size : Int)) (by omega) (by omega), if_pos (by omega), Nat.zero_add, bit_val a i t hlt (by omega) hn, bit_val b i t (by omega) (by omega) (by omega)]
     simp only [Option.bind_some]
     rw [if_neg]
     rw [hxn, hyn]
     intro he
     have he' : bitN x t = bitN y t := by exact_mod_cast he
     rw [bitN_xor, l4] at he'
     exact absurd he' (by decide)
theorem common_sync (a b : ByteArray) : ∃ r : Int, Ev (fun k => addr_Common.f k a b) r ∧ Ev (fun k => conciergeref2_Common.f k a b) r := by
 by_cases hs : a.size = b.size
 ·by_cases hi : a.size = 4 ∨ a.size = 16
  ·obtain ⟨r, h1, h2⟩ := common_sync_l a b hs (by omega) _ 0 rfl (by omega)
   refine ⟨r, ?_, ?_⟩
   ·refine Ev.congr (f := fun k => addr_Common.j0 k a b false) (fun k => ?_) (Ev.step (fun k => by simp only [addr_Common.j0]; rw [if_neg (by decide)]; rfl) h1)
    unfold addr_Common.f
    rw [if_pos (by omega), is_some, decide_eq_true hi]
    rfl
   ·refine Ev.congr (f := fun k => conciergeref2_Common.j0 k a b false) (fun k => ?_) (Ev.step (fun k => by simp only [conciergeref2_Common.j0]; rw [if_neg (by decide)]; rfl) h2)
    unfold conciergeref2_Common.f
    rw [if_pos (by omega)]
    by_cases h4 : (a.size : Int) = 4
    ·rw [if_pos h4]
    ·rw [if_neg h4]
     congr 1
     have : (a.size : Int) = 16 := by omega
     simp [this]
  ·refine ⟨0, ?_, ?_⟩
   ·refine Ev.congr (f := fun k => addr_Common.j0 k a b true) (fun k => ?_) (Ev.step (f := fun _ => some 0) (fun k => by simp [addr_Common.j0]) (Ev.now _))
    unfold addr_Common.f
    rw [if_pos (by omega), is_some, decide_eq_false hi]
    rfl
   ·refine Ev.congr (f := fun k => conciergeref2_Common.j0 k a b true) (fun k => ?_) (Ev.step (f := fun _ => some 0) (fun k => by simp [conciergeref2_Common.j0]) (Ev.now _))
    unfold conciergeref2_Common.f
    rw [if_pos (by omega), if_neg (by omega)]
    congr 1
    have : ¬ (a.size : Int) = 16 := by omega
    simp [this]
 ·refine ⟨0, ?_, ?_⟩
  ·refine Ev.congr (f := fun k => addr_Common.j0 k a b true) (fun k => ?_) (Ev.step (f := fun _ => some 0) (fun k => by simp [addr_Common.j0]) (Ev.now _))
   unfold addr_Common.f
   rw [if_neg (by omega)]
  ·refine Ev.congr (f := fun k => conciergeref2_Common.j0 k a b true) (fun k => ?_) (Ev.step (f := fun _ => some 0) (fun k => by simp [conciergeref2_Common.j0]) (Ev.now _))
   unfold conciergeref2_Common.f
   rw [if_neg (by omega)]
theorem in_sync (a b : ByteArray) (n : Int) : ∃ r : Bool, Ev (fun k => addr_In.f k a b n) r ∧ Ev (fun k => conciergeref2_In.f k a b n) r := by
 obtain ⟨c, ⟨K1, h1⟩, ⟨K2, h2⟩⟩ := common_sync a b
 by_cases e1 : (a.size : Int) = (b.size : Int)
 ·by_cases e2 : a.size = 4 ∨ a.size = 16
  ·by_cases e3 : n ≥ 0
   ·by_cases e4 : n ≤ wrap64 (8 * (a.size : Int))
    ·refine ⟨decide (c ≥ n), ⟨K1, fun k hk => ?_⟩, ⟨K2, fun k hk => ?_⟩⟩
     ·show addr_In.f k a b n = _
      unfold addr_In.f
      rw [if_pos e1, is_some, decide_eq_true e2]
      simp only [Option.bind_some, if_true]
      rw [if_pos e3, if_pos e4, show addr_Common.f k a b = some c from h1 k hk]
      rfl
     ·show conciergeref2_In.f k a b n = _
      unfold conciergeref2_In.f
      rw [if_pos e1, show conciergeref2_Common.f k a b = some c from h2 k hk]
      simp only [Option.bind_some]
      by_cases e5 : (a.size : Int) = 4
      ·rw [if_pos e5, if_pos e3, if_pos e4]
      ·rw [if_neg e5, if_pos (by omega), if_pos e3, if_pos e4]
    ·refine ⟨false, ⟨0, fun k hk => ?_⟩, ⟨0, fun k hk => ?_⟩⟩
     ·show addr_In.f k a b n = _
      unfold addr_In.f
      rw [if_pos e1, is_some, decide_eq_true e2]
      simp only [Option.bind_some, if_true]
      rw [if_pos e3, if_neg e4]
     ·show conciergeref2_In.f k a b n = _
      unfold conciergeref2_In.f
      rw [if_pos e1]
      by_cases e5 : (a.size : Int) = 4
      ·rw [if_pos e5, if_pos e3, if_neg e4]
      ·rw [if_neg e5, if_pos (by omega), if_pos e3, if_neg e4]
   ·refine ⟨false, ⟨0, fun k hk => ?_⟩, ⟨0, fun k hk => ?_⟩⟩
    ·show addr_In.f k a b n = _
     unfold addr_In.f
     rw [if_pos e1, is_some, decide_eq_true e2]
     simp only [Option.bind_some, if_true]
     rw [if_neg e3]
    ·show conciergeref2_In.f k a b n = _
     unfold conciergeref2_In.f
     rw [if_pos e1]
     by_cases e5 : (a.size : Int) = 4
     ·rw [if_pos e5, if_neg e3]
     ·rw [if_neg e5, if_pos (by omega), if_neg e3]
  ·refine ⟨false, ⟨0, fun k hk => ?_⟩, ⟨0, fun k hk => ?_⟩⟩
   ·show addr_In.f k a b n = _
    unfold addr_In.f
    rw [if_pos e1, is_some, decide_eq_false e2]
    rfl
   ·show conciergeref2_In.f k a b n = _
    unfold conciergeref2_In.f
    rw [if_pos e1, if_neg (by omega), if_neg (by omega)]
 ·refine ⟨false, ⟨0, fun k hk => ?_⟩, ⟨0, fun k hk => ?_⟩⟩
  ·show addr_In.f k a b n = _
   unfold addr_In.f
   rw [if_neg e1]
  ·show conciergeref2_In.f k a b n = _
   unfold conciergeref2_In.f
   rw [if_neg e1]
theorem mapped_wide (a : ByteArray) : conciergeref15_mapped.f a = selecttab_wide.f a := rfl
theorem row_sync_l (a : ByteArray) (R : List S52) (O : List ByteArray) (hn : R.length ≤ 4611686018427387904) : ∀ (d i : Nat) (x y z : Int), R.length - i = d →
  ∃ r : Int × Int, Ev (fun k => selecttab_Row.l0 k a x y z R (R.length : Int) (i : Int)) r ∧ Ev (fun k => conciergeref15_Row.l0 k a x y z (i : Int) R O) r
 | 0, i, x, y, z, h => ⟨(x, y), Ev.step (f := fun _ => some (x, y)) (fun k => by simp only [selecttab_Row.l0]; rw [if_neg (by omega)]) (Ev.now _), Ev.step (f := fun _ => some (x, y)) (fun k => by simp only [conciergeref15_Row.l0]; rw [if_neg (by omega)]) (Ev.now _)⟩
 | d + 1, i, x, y, z, h => by
  have hlt : i < R.length := by omega
  obtain ⟨w, hw⟩ := wide_some a
  obtain ⟨t, ht, ht'⟩ := in_sync w (rd_T52 R i).f0 (rd_T52 R i).f1
  have hs := w_succ i _ hlt hn
  obtain ⟨r1, a1, b1⟩ := row_sync_l a R O hn d (i + 1) x y z (by omega)
  obtain ⟨r2, a2, b2⟩ := row_sync_l a R O hn d (i + 1) ((rd_T52 R i).f2) ((rd_T52 R i).f3) ((rd_T52 R i).f1) (by omega)
  generalize hp : rd_T52 R (i : Int) = pp at *
  refine ⟨if t = true ∧ pp.f1 > z then r2 else r1, ?_, ?_⟩
  ·refine Ev.step (f := fun k => (addr_In.f k w pp.f0 pp.f1).bind fun t => if t = true then (if pp.f1 > z then (selecttab_Row.l0 k a pp.f2 pp.f3 pp.f1 R (R.length : Int) ((i + 1 : Nat) : Int)) else (selecttab_Row.l0 k a x y z R (R.length : Int) ((i + 1 : Nat) : Int))) else (selecttab_Row.l0 k a x y z R (R.length : Int) ((i + 1 : Nat) : Int))) (fun k => ?_) (Ev.bind ht ?_)
   ·simp only [selecttab_Row.l0]
    rw [if_pos (by omega), if_pos (by omega), if_pos (by omega), hw, hs, hp]
    rfl
   ·cases t with
    | false => simpa using a1
    | true =>
     by_cases hg : pp.f1 > z
     ·simpa [hg] using a2
     ·simpa [hg] using a1
  ·by_cases hg : pp.f1 > z
   ·refine Ev.step (f := fun k => (conciergeref2_In.f k w pp.f0 pp.f1).bind fun t => if t = true then (conciergeref15_Row.l0 k a pp.f2 pp.f3 pp.f1 ((i + 1 : Nat) : Int) R O) else (conciergeref15_Row.l0 k a x y z ((i + 1 : Nat) : Int) R O)) (fun k => ?_) (Ev.bind ht' ?_)
    ·simp only [conciergeref15_Row.l0]
     rw [if_pos (by omega), if_pos (by omega), hp, if_pos hg, mapped_wide, hw, hs]
     rfl
    ·cases t with
     | false => simpa using b1
     | true => simpa [hg] using b2
   ·refine Ev.step (f := fun k => conciergeref15_Row.l0 k a x y z ((i + 1 : Nat) : Int) R O) (fun k => ?_) (by simpa [hg] using b1)
    simp only [conciergeref15_Row.l0]
    rw [if_pos (by omega), if_pos (by omega), hp, if_neg hg, hs]
theorem row_sync (R : List S52) (O : List ByteArray) (hn : R.length ≤ 4611686018427387904) (a : ByteArray) : ∃ r : Int × Int, Ev (fun k => selecttab_Row.f k R O a) r ∧ Ev (fun k => conciergeref15_Row.f k R O a) r := by
 by_cases h : a.size = 4 ∨ a.size = 16
 ·obtain ⟨r, h1, h2⟩ := row_sync_l a R O hn _ 0 1 40 (-1) rfl
  refine ⟨r, Ev.congr (fun k => ?_) h1, Ev.congr (f := fun k => conciergeref15_Row.j0 k a 1 40 (-1) false R O) (fun k => ?_) (Ev.step (fun k => by simp only [conciergeref15_Row.j0]; rw [if_neg (by decide)]; rfl) h2)⟩
  ·unfold selecttab_Row.f
   rw [is_some, decide_eq_true h]
   rfl
  ·unfold conciergeref15_Row.f
   by_cases e : (a.size : Int) = 4
   ·rw [if_pos e]
   ·rw [if_neg e]
    have : (a.size : Int) = 16 := by omega
    simp [this]
 ·refine ⟨(1, 40), Ev.congr (fun k => ?_) (Ev.now _), Ev.congr (f := fun k => conciergeref15_Row.j0 k a 1 40 (-1) true R O) (fun k => ?_) (Ev.step (f := fun _ => some (1, 40)) (fun k => by simp [conciergeref15_Row.j0]) (Ev.now _))⟩
  ·unfold selecttab_Row.f
   rw [is_some, decide_eq_false h]
   rfl
  ·unfold conciergeref15_Row.f
   rw [if_neg (by omega)]
   rw [show ((a.size : Int) != 16) = true from bne_iff_ne.mpr (by omega)]
theorem scope_sync (a : ByteArray) : ∃ r : Int, Ev (fun k => selecttab_Scope.f k a) r ∧ conciergeref15_Scope.f a = some r := by
 have b0 := bt_range a 0
 have b1 := bt_range a 1
 have j0t : Ev (fun k => selecttab_Scope.j0 k a true) 2 := Ev.step (f := fun _ => some 2) (fun k => by simp [selecttab_Scope.j0]) (Ev.now _)
 have j1t : Ev (fun k => selecttab_Scope.j1 k a true) 2 := Ev.step (f := fun _ => some 2) (fun k => by simp [selecttab_Scope.j1]) (Ev.now _)
 by_cases h4 : (a.size : Int) = 4
 ·have j04 : Ev (fun k => selecttab_Scope.j0 k a false) 14 := Ev.step (f := fun _ => some 14) (fun k => by simp only [selecttab_Scope.j0]; rw [if_neg (by decide), if_pos h4]) (Ev.now _)
  by_cases h127 : bt a 0 = 127
  ·refine ⟨2, Ev.congr (fun k => by unfold selecttab_Scope.f; rw [if_pos h4, if_pos (by omega), if_pos h127]) j0t, ?_⟩
   unfold conciergeref15_Scope.f
   rw [if_pos h4, if_pos (by omega), if_pos h127]
  ·by_cases h169 : bt a 0 = 169
   ·by_cases h254 : bt a 1 = 254
    ·refine ⟨2, Ev.congr (fun k => by unfold selecttab_Scope.f; rw [if_pos h4, if_pos (by omega), if_neg h127, if_pos h169, if_pos (by omega), show (bt a 1 == 254) = true from beq_iff_eq.mpr h254]) j0t, ?_⟩
     unfold conciergeref15_Scope.f
     rw [if_pos h4, if_pos (by omega), if_neg h127, if_pos h169, if_pos (by omega), if_pos h254]
    ·refine ⟨14, Ev.congr (fun k => by unfold selecttab_Scope.f; rw [if_pos h4, if_pos (by omega), if_neg h127, if_pos h169, if_pos (by omega), show (bt a 1 == 254) = false from beq_eq_false_iff_ne.mpr h254]) j04, ?_⟩
     unfold conciergeref15_Scope.f
     rw [if_pos h4, if_pos (by omega), if_neg h127, if_pos h169, if_pos (by omega), if_neg h254]
   ·refine ⟨14, Ev.congr (fun k => by unfold selecttab_Scope.f; rw [if_pos h4, if_pos (by omega), if_neg h127, if_neg h169]) j04, ?_⟩
    unfold conciergeref15_Scope.f
    rw [if_pos h4, if_pos (by omega), if_neg h127, if_neg h169]
 ·by_cases h16 : (a.size : Int) = 16
  ·have hrep : (strOfNums (List.replicate 15 (0 : Int) ++ [1])).toList = ([0, 0, 0, 0, 0, 0, 0, 0, 0, 0, 0, 0, 0, 0, 0, 1] : List UInt8) := by decide +kernel
   have hone : a.toList = ([0, 0, 0, 0, 0, 0, 0, 0, 0, 0, 0, 0, 0, 0, 0, 1] : List UInt8) → bt a 0 = 0 := by
    intro h
    have ha : a = (⟨#[0, 0, 0, 0, 0, 0, 0, 0, 0, 0, 0, 0, 0, 0, 0, 1]⟩ : ByteArray) := by rw [Go.ByteArray.toList_eq] at h; exact ByteArray.ext (Array.ext' h)
    rw [ha]
    decide +kernel
   have j0f : ∀ {r : Int} {t : Bool}, a.toList ≠ ([0, 0, 0, 0, 0, 0, 0, 0, 0, 0, 0, 0, 0, 0, 0, 1] : List UInt8) → ((bt a 0 = 254 ∧ t = (Go.bits .and .u8 (bt a 1) 192 == 128)) ∨ (bt a 0 ≠ 254 ∧ t = false)) → Ev (fun k => selecttab_Scope.j1 k a t) r → Ev (fun k => selecttab_Scope.j0 k a false) r := by
    intro r t hb ht hr
    refine Ev.step (fun k => ?_) hr
    simp only [selecttab_Scope.j0]
    rw [if_neg (by decide), if_neg h4, if_pos h16, if_neg hb, if_pos (by omega)]
    rcases ht with ⟨e, rfl⟩ | ⟨e, rfl⟩
    ·rw [if_pos e, if_pos (by omega)]
    ·rw [if_neg e]
   have f0 : ∀ {r : Int}, Ev (fun k => selecttab_Scope.j0 k a false) r → Ev (fun k => selecttab_Scope.f k a) r := fun h => Ev.congr (fun k => by unfold selecttab_Scope.f; rw [if_neg h4]) h
   by_cases h255 : bt a 0 = 255
   ·have hb : a.toList ≠ ([0, 0, 0, 0, 0, 0, 0, 0, 0, 0, 0, 0, 0, 0, 0, 1] : List UInt8) := fun h => by have := hone h; omega
    refine ⟨wrap64 (Go.bits .and .u8 (bt a 1) 15), f0 (j0f (t := false) hb (.inr ⟨by omega, rfl⟩) (Ev.step (f := fun _ => some (wrap64 (Go.bits .and .u8 (bt a 1) 15))) (fun k => ?_) (Ev.now _))), ?_⟩
    ·simp only [selecttab_Scope.j1]
     rw [if_neg (by decide), if_pos (by omega), if_pos h255, if_pos (by omega)]
    ·unfold conciergeref15_Scope.f
     rw [if_neg h4, if_pos h16, if_pos (by omega), if_pos h255, if_pos (by omega), show Go.bits .and .u8 (bt a 1) 15 = bt a 1 % 16 from u8_and15 (bt a 1) (by omega) (by omega), w_id (bt a 1) (by omega) (by omega), w_id _ (by omega) (by omega), Int.tmod_eq_emod_of_nonneg (by omega)]
   ·by_cases h254 : bt a 0 = 254
    ·have hb : a.toList ≠ ([0, 0, 0, 0, 0, 0, 0, 0, 0, 0, 0, 0, 0, 0, 0, 1] : List UInt8) := fun h => by have := hone h; omega
     have hand : (Go.bits .and .u8 (bt a 1) 192 == 128) = decide (Int.tdiv (bt a 1) 64 % 256 = 2) := by
      rw [u8_and _ _ (by omega) (by omega) (by decide) (by decide), Int.tdiv_eq_ediv_of_nonneg (by omega)]
      obtain ⟨x, hx⟩ : ∃ x : Fin 256, bt a 1 = ((x.val : Nat) : Int) := ⟨⟨(bt a 1).toNat, by omega⟩, by simp only; omega⟩
      rw [hx, Int.toNat_natCast]
      revert x
      have : ∀ x : Fin 256, (((x.val &&& (192 : Int).toNat : Nat) : Int) == 128) = decide (((x.val : Nat) : Int) / 64 % 256 = 2) := by decide +kernel
      exact fun x _ => this x
     by_cases hq : Int.tdiv (bt a 1) 64 % 256 = 2
     ·refine ⟨2, f0 (j0f hb (.inl ⟨h254, rfl⟩) (by rw [hand, decide_eq_true hq]; exact j1t)), ?_⟩
      unfold conciergeref15_Scope.f
      rw [if_neg h4, if_pos h16, if_pos (by omega), if_neg h255, if_pos h254, if_pos (by omega), if_pos hq]
     ·refine ⟨14, f0 (j0f hb (.inl ⟨h254, rfl⟩) (by
       rw [hand, decide_eq_false hq]
       exact Ev.step (f := fun _ => some 14) (fun k => by simp only [selecttab_Scope.j1]; rw [if_neg (by decide), if_pos (by omega), if_neg h255]) (Ev.now _))), ?_⟩
      unfold conciergeref15_Scope.f
      rw [if_neg h4, if_pos h16, if_pos (by omega), if_neg h255, if_pos h254, if_pos (by omega), if_neg hq, if_pos (by decide)]
      simp only [Option.bind_some]
      rw [if_pos (by simp), if_neg (by rw [hrep]; exact hb)]
    ·by_cases hb : a.toList = ([0, 0, 0, 0, 0, 0, 0, 0, 0, 0, 0, 0, 0, 0, 0, 1] : List UInt8)
     ·refine ⟨2, f0 (Ev.step (fun k => by simp only [selecttab_Scope.j0]; rw [if_neg (by decide), if_neg h4, if_pos h16, if_pos hb]) j1t), ?_⟩
      unfold conciergeref15_Scope.f
      rw [if_neg h4, if_pos h16, if_pos (by omega), if_neg h255, if_neg h254, if_pos (by decide)]
      simp only [Option.bind_some]
      rw [if_pos (by simp), if_pos (by rw [hrep]; exact hb)]
     ·refine ⟨14, f0 (j0f hb (.inr ⟨h254, rfl⟩) (Ev.step (f := fun _ => some 14) (fun k => by simp only [selecttab_Scope.j1]; rw [if_neg (by decide), if_pos (by omega), if_neg h255]) (Ev.now _))), ?_⟩
      unfold conciergeref15_Scope.f
      rw [if_neg h4, if_pos h16, if_pos (by omega), if_neg h255, if_neg h254, if_pos (by decide)]
      simp only [Option.bind_some]
      rw [if_pos (by simp), if_neg (by rw [hrep]; exact hb)]
  ·refine ⟨0, Ev.congr (fun k => by unfold selecttab_Scope.f; rw [if_neg h4]) (Ev.step (f := fun _ => some 0) (fun k => by simp only [selecttab_Scope.j0]; rw [if_neg (by decide), if_neg h4, if_neg h16]) (Ev.now _)), ?_⟩
   unfold conciergeref15_Scope.f
   rw [if_neg h4, if_neg h16]
theorem keys_sync (R : List S52) (O : List ByteArray) (hn : R.length ≤ 4611686018427387904) (p q : ByteArray) : ∃ r : Int × Int × Int × Int × Int × Int, Ev (fun k => order_Keys.f k R O p q) r ∧ Ev (fun k => conciergeref15_Keys.f k R O p q) r := by
 obtain ⟨r1, ⟨K1, a1⟩, ⟨L1, b1⟩⟩ := row_sync R O hn p
 obtain ⟨r2, ⟨K2, a2⟩, ⟨L2, b2⟩⟩ := row_sync R O hn q
 obtain ⟨s1, ⟨K3, a3⟩, b3⟩ := scope_sync p
 obtain ⟨s2, ⟨K4, a4⟩, b4⟩ := scope_sync q
 obtain ⟨c, ⟨K5, a5⟩, hc⟩ := common_sync p q
 have j3 : ∀ (t : Bool) (y1 y2 y4 y5 y6 : Int), Ev (fun k => conciergeref15_Keys.j3 k r1.2 t p q y1 y2 0 y4 y5 y6) (y1, y2, if t = true then 1 else 0, wrap64 (-r1.2), s1, wrap64 (-c)) := by
  intro t y1 y2 y4 y5 y6
  refine Ev.step (f := fun k => (conciergeref2_Common.f k p q).bind fun c => some (y1, y2, if t = true then 1 else 0, wrap64 (-r1.2), s1, wrap64 (-c))) (fun k => ?_) (Ev.bind hc (Ev.now _))
  simp only [conciergeref15_Keys.j3, b3, Option.bind_some]
  cases t <;> rfl
 have j2 : ∀ (y1 y2 y4 y5 y6 : Int), Ev (fun k => conciergeref15_Keys.j2 k r1.1 r1.2 r2.1 p q y1 y2 0 y4 y5 y6) (y1, y2, if q.toList = ([] : List UInt8) then 1 else if (r1.1 != r2.1) = true then 1 else 0, wrap64 (-r1.2), s1, wrap64 (-c)) := by
  intro y1 y2 y4 y5 y6
  by_cases hq : q.toList = ([] : List UInt8)
  ·rw [if_pos hq]
   exact Ev.step (fun k => by simp only [conciergeref15_Keys.j2]; rw [if_pos hq]) (by simpa using j3 true y1 y2 y4 y5 y6)
  ·rw [if_neg hq]
   exact Ev.step (fun k => by simp only [conciergeref15_Keys.j2]; rw [if_neg hq]) (j3 (r1.1 != r2.1) y1 y2 y4 y5 y6)
 have j1 : ∀ (t : Bool) (y1 y4 y5 y6 : Int), Ev (fun k => conciergeref15_Keys.j1 k r1.1 r1.2 r2.1 t p q y1 0 0 y4 y5 y6) (y1, if t = true then 1 else 0, if q.toList = ([] : List UInt8) then 1 else if (r1.1 != r2.1) = true then 1 else 0, wrap64 (-r1.2), s1, wrap64 (-c)) := by
  intro t y1 y4 y5 y6
  cases t with
  | true => exact Ev.step (fun k => by simp only [conciergeref15_Keys.j1]; rw [if_pos trivial]) (by simpa using j2 y1 1 y4 y5 y6)
  | false => exact Ev.step (fun k => by simp only [conciergeref15_Keys.j1]; rw [if_neg (by decide)]) (by simpa using j2 y1 0 y4 y5 y6)
 have j0 : ∀ (y1 y4 y5 y6 : Int), Ev (fun k => conciergeref15_Keys.j0 k r1.1 r1.2 r2.1 p q y1 0 0 y4 y5 y6) (y1, if q.toList = ([] : List UInt8) then 1 else if (s1 != s2) = true then 1 else 0, if q.toList = ([] : List UInt8) then 1 else if (r1.1 != r2.1) = true then 1 else 0, wrap64 (-r1.2), s1, wrap64 (-c)) := by
  intro y1 y4 y5 y6
  by_cases hq : q.toList = ([] : List UInt8)
  ·have := j1 true y1 y4 y5 y6
   simp only [if_pos hq] at this ⊢
   exact Ev.step (fun k => by simp only [conciergeref15_Keys.j0]; rw [if_pos hq]) this
  ·have := j1 (s1 != s2) y1 y4 y5 y6
   simp only [if_neg hq] at this ⊢
   exact Ev.step (fun k => by simp only [conciergeref15_Keys.j0]; rw [if_neg hq, b3, b4]; rfl) this
 refine ⟨(if q.toList = ([] : List UInt8) then 1 else 0, if q.toList = ([] : List UInt8) then 1 else if (s1 != s2) = true then 1 else 0, if q.toList = ([] : List UInt8) then 1 else if (r1.1 != r2.1) = true then 1 else 0, wrap64 (-r1.2), s1, wrap64 (-c)), ⟨K1 + K2 + K3 + K4 + K5, fun k hk => ?_⟩, ?_⟩
 ·show order_Keys.f k R O p q = _
  unfold order_Keys.f
  rw [show selecttab_Row.f k R O p = some r1 from a1 k (by omega), show selecttab_Row.f k R O q = some r2 from a2 k (by omega), show selecttab_Scope.f k p = some s1 from a3 k (by omega), show selecttab_Scope.f k q = some s2 from a4 k (by omega), show addr_Common.f k p q = some c from a5 k (by omega)]
  simp only [Option.bind_some, worse_some]
  by_cases hq : q.toList = ([] : List UInt8)
  ·simp only [if_pos hq, hq]
   rfl
  ·simp only [if_neg hq, show (q.toList == ([] : List UInt8)) = false from beq_eq_false_iff_ne.mpr hq]
   rfl
 ·unfold conciergeref15_Keys.f
  refine Ev.bind ⟨L1, b1⟩ (Ev.bind ⟨L2, b2⟩ ?_)
  by_cases hq : q.toList = ([] : List UInt8)
  ·have := j0 1 0 0 0
   simp only [if_pos hq] at this ⊢
   exact this
  ·have := j0 0 0 0 0
   simp only [if_neg hq] at this ⊢
   exact this
end Go.Proofs.Ytlfhahnceeoegaa.All
end
section
set_option linter.unusedVariables false
set_option linter.unusedSimpArgs false
set_option maxRecDepth 100000
namespace Go.Proofs.Ytlfhahnceeoegaa.All
open Go.RowKit Go.Proofs.YtlfhahnceeoegaaW.PrintWords Go.Proofs.YtlfhahnceeoegaaW.PrintLast Go.Proofs.YtlfhahnceeoegaaW.PrintMore Go.Sort
theorem Ev.uniq {α : Type} {g : Nat → Option α} {r s : α} (h : Ev g r) (h' : Ev g s) : r = s := by
 obtain ⟨K, hK⟩ := h
 obtain ⟨L, hL⟩ := h'
 exact Option.some.inj ((hK (K + L) (by omega)).symm.trans (hL (K + L) (by omega)))
section
variable (x0 x1 x2 x3 x4 x5 y0 y1 y2 y3 y4 y5 : Int)
theorem less_step (i : Nat) (hi : i < 6) {r : Bool} (h : ix6 i x0 x1 x2 x3 x4 x5 = ix6 i y0 y1 y2 y3 y4 y5 → Ev (fun k => conciergeref15_Less.l0 k ((i + 1 : Nat) : Int) x0 x1 x2 x3 x4 x5 y0 y1 y2 y3 y4 y5) r)
  (h2 : ix6 i x0 x1 x2 x3 x4 x5 ≠ ix6 i y0 y1 y2 y3 y4 y5 → r = decide (ix6 i x0 x1 x2 x3 x4 x5 < ix6 i y0 y1 y2 y3 y4 y5)) : Ev (fun k => conciergeref15_Less.l0 k (i : Int) x0 x1 x2 x3 x4 x5 y0 y1 y2 y3 y4 y5) r := by
 by_cases e : ix6 i x0 x1 x2 x3 x4 x5 = ix6 i y0 y1 y2 y3 y4 y5
 ·refine Ev.step (fun k => ?_) (h e)
  simp only [conciergeref15_Less.l0]
  rw [if_pos (by omega), if_pos (by omega), if_pos e, w_succ i 6 hi (by omega)]
 ·refine Ev.step (f := fun _ => some r) (fun k => ?_) (Ev.now _)
  simp only [conciergeref15_Less.l0]
  rw [if_pos (by omega), if_pos (by omega), if_neg e, h2 e]
end
theorem less_l (a b : S35) : Ev (fun k => conciergeref15_Less.l0 k 0 a.f0 a.f1 a.f2 a.f3 a.f4 a.f5 b.f0 b.f1 b.f2 b.f3 b.f4 b.f5) (decide (cmp6 a b < 0)) := by
 refine less_step _ _ _ _ _ _ _ _ _ _ _ _ 0 (by decide) (fun e0 => ?_) (fun n0 => ?_)
 ·refine less_step _ _ _ _ _ _ _ _ _ _ _ _ 1 (by decide) (fun e1 => ?_) (fun n1 => ?_)
  ·refine less_step _ _ _ _ _ _ _ _ _ _ _ _ 2 (by decide) (fun e2 => ?_) (fun n2 => ?_)
   ·refine less_step _ _ _ _ _ _ _ _ _ _ _ _ 3 (by decide) (fun e3 => ?_) (fun n3 => ?_)
    ·refine less_step _ _ _ _ _ _ _ _ _ _ _ _ 4 (by decide) (fun e4 => ?_) (fun n4 => ?_)
     ·refine less_step _ _ _ _ _ _ _ _ _ _ _ _ 5 (by decide) (fun e5 => ?_) (fun n5 => ?_)
      ·have e : cmp6 a b = 0 := by
        simp [ix6] at e0 e1 e2 e3 e4 e5
        simp [cmp6, ci_zero, e0, e1, e2, e3, e4, e5]
       rw [e]
       refine Ev.step (f := fun _ => some false) (fun k => ?_) (Ev.now _)
       simp only [conciergeref15_Less.l0]
       rw [if_neg (by decide)]
      ·simp [ix6] at e0 e1 e2 e3 e4 n5
       simp [ix6, cmp6, ci_zero, ci_lt, e0, e1, e2, e3, e4, n5]
     ·simp [ix6] at e0 e1 e2 e3 n4
      simp [ix6, cmp6, ci_zero, ci_lt, e0, e1, e2, e3, n4]
    ·simp [ix6] at e0 e1 e2 n3
     simp [ix6, cmp6, ci_zero, ci_lt, e0, e1, e2, n3]
   ·simp [ix6] at e0 e1 n2
    simp [ix6, cmp6, ci_zero, ci_lt, e0, e1, n2]
  ·simp [ix6] at e0 n1
   simp [ix6, cmp6, ci_zero, ci_lt, e0, n1]
 ·simp [ix6] at n0
  simp [ix6, cmp6, ci_zero, ci_lt, n0]
section
variable (R : List S52) (O : List ByteArray) (kd : S34 → S59)
def KeyedBy : Prop := ∀ p : S34, Ev (fun k => conciergeref15_Keys.f k R O p.f0 p.f1) ((kd p).f1.f0, (kd p).f1.f1, (kd p).f1.f2, (kd p).f1.f3, (kd p).f1.f4, (kd p).f1.f5)
def ltP (p q : S34) : Bool := ltOf cmpK (kd p) (kd q)
variable {R O kd}
theorem less_some (hk : KeyedBy R O kd) (p q : S34) : Ev (fun k => conciergeref15_Less.f k R O p.f0 p.f1 q.f0 q.f1) (ltP kd p q) := by
 unfold conciergeref15_Less.f
 refine Ev.bind (hk p) (Ev.bind (hk q) ?_)
 exact less_l (kd p).f1 (kd q).f1
def bubP (lt : S34 → S34 → Bool) : Nat → List S34 → List S34
 | 0, M => M
 | j + 1, M => if lt (M.getD (j + 1) z34) (M.getD j z34) = true then bubP lt j ((M.set j (M.getD (j + 1) z34)).set (j + 1) (M.getD j z34)) else M
theorem bubP_step (lt : S34 → S34 → Bool) (j : Nat) (M : List S34) : bubP lt (j + 1) M = if lt (M.getD (j + 1) z34) (M.getD j z34) = true then bubP lt j ((M.set j (M.getD (j + 1) z34)).set (j + 1) (M.getD j z34)) else M := rfl
theorem bubP_length (lt : S34 → S34 → Bool) : ∀ (j : Nat) (M : List S34), (bubP lt j M).length = M.length
 | 0, _ => rfl
 | j + 1, M => by
  unfold bubP
  split
  ·rw [bubP_length lt j]; simp
  ·rfl
theorem ref_l1 (hk : KeyedBy R O kd) (L : List S34) (i : Nat) {r : List S34} : ∀ (j : Nat) (M : List S34), j < M.length → M.length ≤ 1000 →
  Ev (fun k => conciergeref15_Sort.l0 k L (bubP (ltP kd) j M) (wrap64 ((i : Int) + 1)) R O) r → Ev (fun k => conciergeref15_Sort.l1 k L M (i : Int) (j : Int) R O) r
 | 0, M, hj, hM, h => Ev.step (fun k => by simp only [conciergeref15_Sort.l1]; rw [if_neg (by decide)]; rfl) h
 | j + 1, M, hj, hM, h => by
  have ew : wrap64 (((j + 1 : Nat) : Int) - 1) = (j : Int) := by rw [w_id _ (by omega) (by omega)]; omega
  have e1 : rd_T34 M ((j + 1 : Nat) : Int) = M.getD (j + 1) z34 := rfl
  have e2 : rd_T34 M (j : Int) = M.getD j z34 := rfl
  generalize hp : M.getD (j + 1) z34 = p at *
  generalize hq : M.getD j z34 = q at *
  refine Ev.step (f := fun k => (conciergeref15_Less.f k R O p.f0 p.f1 q.f0 q.f1).bind fun t => if t = true then conciergeref15_Sort.l1 k L ((M.set j p).set (j + 1) q) (i : Int) (j : Int) R O else conciergeref15_Sort.l0 k L M (wrap64 ((i : Int) + 1)) R O) (fun k => ?_) (Ev.bind (less_some hk p q) ?_)
  ·simp only [conciergeref15_Sort.l1]
   rw [ew, if_pos (by omega), if_pos (by omega), if_pos (by omega), if_pos (by omega), if_pos (by omega), e1, e2]
   rfl
  ·cases ht : ltP kd p q with
   | false =>
    have hb : bubP (ltP kd) (j + 1) M = M := by unfold bubP; rw [hp, hq, ht]; rfl
    rw [hb] at h
    simpa using h
   | true =>
    have hb : bubP (ltP kd) (j + 1) M = bubP (ltP kd) j ((M.set j p).set (j + 1) q) := (bubP_step _ _ _).trans (by rw [hp, hq, ht]; rfl)
    rw [hb] at h
    have := ref_l1 hk L i j ((M.set j p).set (j + 1) q) (by simp; omega) (by simpa using hM) h
    simpa using this
theorem inner_bub : ∀ (j : Nat) (M : List S34) (rest : List S59), j < M.length → Sort.insInner (ltOf cmpK) 0 j (M.map kd ++ rest).toArray = ((bubP (ltP kd) j M).map kd ++ rest).toArray
 | 0, M, rest, h => rfl
 | j + 1, M, rest, h => by
  have hg : ∀ n, n < M.length → (M.map kd ++ rest).toArray[n]! = kd (M.getD n z34) := by
   intro n hn
   rw [getElem!_pos _ _ (by simp; omega)]
   simp [List.getElem_append_left, hn, List.getD_eq_getElem?_getD, List.getElem?_eq_getElem hn]
  unfold Sort.insInner
  rw [hg (j + 1) h, hg j (by omega)]
  have hlt : ltOf cmpK (kd (M.getD (j + 1) z34)) (kd (M.getD j z34)) = ltP kd (M.getD (j + 1) z34) (M.getD j z34) := rfl
  rw [hlt]
  generalize hp : M.getD (j + 1) z34 = p at *
  generalize hq : M.getD j z34 = q at *
  cases ht : ltP kd p q with
  | false =>
   have hb : bubP (ltP kd) (j + 1) M = M := by unfold bubP; rw [hp, hq, ht]; rfl
   rw [hb]
   simp
  | true =>
   have hb : bubP (ltP kd) (j + 1) M = bubP (ltP kd) j ((M.set j p).set (j + 1) q) := (bubP_step _ _ _).trans (by rw [hp, hq, ht]; rfl)
   rw [hb, ← inner_bub j ((M.set j p).set (j + 1) q) rest (by simp; omega)]
   have hs : swp (M.map kd ++ rest).toArray (j + 1) j = (((M.set j p).set (j + 1) q).map kd ++ rest).toArray := by
    unfold swp
    rw [hg (j + 1) h, hg j (by omega), hp, hq]
    apply Array.ext'
    simp [List.set_append, h, show j < M.length by omega, List.map_set]
    exact List.set_comm _ _ (by omega)
   rw [← hs]
   simp
theorem ref_l0 (hk : KeyedBy R O kd) (L : List S34) (hL : L.length ≤ 20) : ∀ (n i : Nat) (P : List S34), L.length - i = n → i ≤ L.length → P.length = i →
  ∃ P', P'.map kd = (insS 0 n i (P.map kd ++ (L.drop i).map kd).toArray).toList ∧ Ev (fun k => conciergeref15_Sort.l0 k L P (i : Int) R O) P'
 | 0, i, P, h, hi, hP => by
  refine ⟨P, ?_, Ev.step (f := fun _ => some P) (fun k => ?_) (Ev.now _)⟩
  ·rw [List.drop_eq_nil_of_le (by omega)]; simp [insS]
  ·simp only [conciergeref15_Sort.l0]; rw [if_neg (by omega)]
 | n + 1, i, P, h, hi, hP => by
  have hlt : i < L.length := by omega
  have hp : rd_T34 L (i : Int) = L[i] := by show L.getD i _ = _; simp [List.getD_eq_getElem?_getD, List.getElem?_eq_getElem hlt]
  have hl : (P ++ [L[i]]).length = i + 1 := by simp [hP]
  obtain ⟨P', h1, h2⟩ := ref_l0 hk L hL n (i + 1) (bubP (ltP kd) i (P ++ [L[i]])) (by omega) (by omega) (by rw [bubP_length, hl])
  refine ⟨P', ?_, Ev.step (fun k => ?_) (ref_l1 hk L i i (P ++ [L[i]]) (by omega) (by omega) (by rw [w_succ i 21 (by omega) (by omega)]; exact h2))⟩
  ·rw [h1]
   show _ = (insS 0 n (i + 1) (Sort.insInner (ltOf cmpK) 0 i (P.map kd ++ (L.drop i).map kd).toArray)).toList
   have e : P.map kd ++ (L.drop i).map kd = (P ++ [L[i]]).map kd ++ (L.drop (i + 1)).map kd := by
    rw [List.drop_eq_getElem_cons hlt, List.map_append, List.map_cons, List.map_cons, List.map_nil, List.append_assoc]; rfl
   rw [e, inner_bub i _ _ (by omega)]
  ·simp only [conciergeref15_Sort.l0]
   rw [if_pos (by omega), if_pos (by omega), if_pos (by omega), hp]
   simp only [Option.bind_some]
   rw [hl, w_id _ (by omega) (by omega)]
   congr 1
   omega
theorem ref_sort (h0 : ∀ p, (kd p).f0 = p) (hk : KeyedBy R O kd) (L : List S34) (hL : L.length ≤ 20) : Ev (fun k => conciergeref15_Sort.f k R O L) ((isort (L.map kd)).map (·.f0)) := by
 obtain ⟨P', h1, h2⟩ := ref_l0 hk L hL L.length 0 [] rfl (by omega) rfl
 have e : (isort (L.map kd)).map (·.f0) = P' := by
  have e2 : isort (L.map kd) = P'.map kd := by
   rw [h1]
   unfold isort insertionS
   cases L with
   | nil => rfl
   | cons p l =>
    rw [List.map_nil, List.nil_append, List.drop_zero]
    show (insS 0 ((List.map kd (p :: l)).length - 1) 1 _).toList = (insS 0 l.length 1 (Sort.insInner _ 0 0 _)).toList
    rw [List.length_map]
    rfl
  rw [e2, List.map_map]
  exact (List.map_congr_left (g := id) (fun x _ => h0 x)).trans (List.map_id _)
 rw [e]
 exact h2
end
end Go.Proofs.Ytlfhahnceeoegaa.All
end
section
set_option linter.unusedVariables false
set_option linter.unusedSimpArgs false
set_option maxRecDepth 100000
namespace Go.Proofs.Ytlfhahnceeoegaa.All
open Go.RowKit Go.Proofs.YtlfhahnceeoegaaW.PrintWords Go.Proofs.YtlfhahnceeoegaaW.PrintLast Go.Proofs.YtlfhahnceeoegaaW.PrintMore
def Tot {α : Type} (g : Nat → Option α) (p : α → Prop) : Prop := ∃ r, p r ∧ Ev g r
section
variable {α β : Type} {g f : Nat → Option α} {p : α → Prop} {q : β → Prop}
theorem Tot.now {r : α} (h : p r) : Tot (fun _ => some r) p := ⟨r, h, Ev.now r⟩
theorem Tot.step (h : ∀ k, g (k + 1) = f k) (t : Tot f p) : Tot g p := by
 obtain ⟨r, hp, he⟩ := t
 exact ⟨r, hp, Ev.step h he⟩
theorem Tot.congr (h : ∀ k, g k = f k) (t : Tot f p) : Tot g p := by
 obtain ⟨r, hp, he⟩ := t
 exact ⟨r, hp, Ev.congr h he⟩
theorem Tot.bind {F : Nat → α → Option β} (t : Tot g p) (h : ∀ a, p a → Tot (fun n => F n a) q) : Tot (fun n => (g n).bind (F n)) q := by
 obtain ⟨a, hp, he⟩ := t
 obtain ⟨b, hq, hb⟩ := h a hp
 exact ⟨b, hq, Ev.bind he hb⟩
theorem Tot.imp {p' : α → Prop} (t : Tot g p) (h : ∀ a, p a → p' a) : Tot g p' := by
 obtain ⟨r, hp, he⟩ := t
 exact ⟨r, h r hp, he⟩
end
theorem wid (x : Int) (h0 : -4611686018427387904 ≤ x) (h1 : x ≤ 4611686018427387904) : wrap64 x = x := by
 unfold wrap64
 omega
theorem wsuc (i : Nat) (h : i < 4611686018427387904) : wrap64 ((i : Int) + 1) = ((i + 1 : Nat) : Int) := by
 unfold wrap64
 omega
theorem num_l (a : ByteArray) (m : Int) (hn : a.size ≤ 1000000) : ∀ (d i : Nat) (v : Int), a.size - i = d → Tot (fun k => conciergeref2_Num.l0 k a m v (i : Int)) (fun _ => True)
 | 0, i, v, h => by
  by_cases hv : v > m
  ·exact Tot.step (f := fun _ => some (0, false)) (fun k => by simp only [conciergeref2_Num.l0]; rw [if_neg (by omega), if_pos hv]) (Tot.now trivial)
  ·exact Tot.step (f := fun _ => some (v, true)) (fun k => by simp only [conciergeref2_Num.l0]; rw [if_neg (by omega), if_neg hv]) (Tot.now trivial)
 | d + 1, i, v, h => by
  by_cases h1 : bt a i < 48
  ·exact Tot.step (f := fun _ => some (0, false)) (fun k => by simp only [conciergeref2_Num.l0]; rw [if_pos (by omega), if_pos (by omega), if_pos h1]) (Tot.now trivial)
  ·by_cases h2 : bt a i > 57
   ·exact Tot.step (f := fun _ => some (0, false)) (fun k => by simp only [conciergeref2_Num.l0]; rw [if_pos (by omega), if_pos (by omega), if_neg h1, if_pos h2]) (Tot.now trivial)
   ·exact Tot.step (fun k => by simp only [conciergeref2_Num.l0]; rw [if_pos (by omega), if_pos (by omega), if_neg h1, if_neg h2, wsuc i (by omega)]) (num_l a m hn d (i + 1) (wrap64 ((wrap64 (10 * v)) + (((bt a i) - 48) % 256))) (by omega))
theorem num_j (a : ByteArray) (m : Int) (hn : a.size ≤ 1000000) (t : Bool) : Tot (fun k => conciergeref2_Num.j0 k a m t) (fun _ => True) := by
 cases t with
 | true => exact Tot.step (f := fun _ => some (0, false)) (fun k => by simp [conciergeref2_Num.j0]) (Tot.now trivial)
 | false => exact Tot.step (fun k => by simp only [conciergeref2_Num.j0]; rw [if_neg (by decide)]; rfl) (num_l a m hn _ 0 0 rfl)
theorem num_tot (a : ByteArray) (m : Int) : Tot (fun k => conciergeref2_Num.f k a m) (fun _ => True) := by
 unfold conciergeref2_Num.f
 by_cases h1 : (a.size : Int) < 1
 ·refine Tot.congr (f := fun k => conciergeref2_Num.j0 k a m true) (fun k => by rw [if_pos h1]) (Tot.step (f := fun _ => some (0, false)) (fun k => by simp [conciergeref2_Num.j0]) (Tot.now trivial))
 ·by_cases h2 : (a.size : Int) > 9
  ·refine Tot.congr (f := fun k => conciergeref2_Num.j0 k a m true) (fun k => by rw [if_neg h1, if_pos h2]) (Tot.step (f := fun _ => some (0, false)) (fun k => by simp [conciergeref2_Num.j0]) (Tot.now trivial))
  ·by_cases h3 : bt a 0 = 48
   ·exact Tot.congr (fun k => by rw [if_neg h1, if_neg h2, if_pos (by omega), if_pos h3]) (num_j a m (by omega) _)
   ·exact Tot.congr (fun k => by rw [if_neg h1, if_neg h2, if_pos (by omega), if_neg h3]) (num_j a m (by omega) _)
theorem split_l (a : ByteArray) (c : Int) (hn : a.size ≤ 1000000) : ∀ (d st i : Nat) (acc : List ByteArray), a.size + 1 - i = d → st ≤ i → i ≤ a.size + 1 → acc.length ≤ i → (∀ s ∈ acc, s.size ≤ a.size) → Tot (fun k => conciergeref2_Split.l0 k a c acc (st : Int) (i : Int)) (fun r => r.length ≤ a.size + 1 ∧ ∀ s ∈ r, s.size ≤ a.size)
 | 0, st, i, acc, h, hs, hi, ha, hz => Tot.step (f := fun _ => some acc) (fun k => by simp only [conciergeref2_Split.l0]; rw [if_neg (by omega)]) (Tot.now ⟨by omega, hz⟩)
 | d + 1, st, i, acc, h, hs, hi, ha, hz => by
  have hz1 : ∀ s ∈ acc ++ [a.extract ((st : Int)).toNat ((i : Int)).toNat], s.size ≤ a.size := by
   intro s hs
   rcases List.mem_append.1 hs with h1 | h1
   ·exact hz s h1
   ·rw [List.mem_singleton.1 h1, ByteArray.size_extract]; omega
  have h1 := split_l a c hn d (i + 1) (i + 1) (acc ++ [a.extract ((st : Int)).toNat ((i : Int)).toNat]) (by omega) (by omega) (by omega) (by simp; omega) hz1
  by_cases e : (i : Int) = (a.size : Int)
  ·refine Tot.step (fun k => ?_) h1
   simp only [conciergeref2_Split.l0]
   rw [if_pos (by omega), if_pos e, if_pos (by omega), if_pos (by omega), if_pos (by omega), wsuc i (by omega)]
  ·by_cases hc : bt a i = c
   ·refine Tot.step (fun k => ?_) h1
    simp only [conciergeref2_Split.l0]
    rw [if_pos (by omega), if_neg e, if_pos (by omega), if_pos (by omega), if_pos hc, if_pos (by omega), if_pos (by omega), if_pos (by omega), wsuc i (by omega)]
   ·refine Tot.step (fun k => ?_) (split_l a c hn d st (i + 1) acc (by omega) (by omega) (by omega) (by omega) hz)
    simp only [conciergeref2_Split.l0]
    rw [if_pos (by omega), if_neg e, if_pos (by omega), if_pos (by omega), if_neg hc, wsuc i (by omega)]
theorem split_tot (a : ByteArray) (c : Int) (hn : a.size ≤ 1000000) : Tot (fun k => conciergeref2_Split.f k a c) (fun r => r.length ≤ a.size + 1 ∧ ∀ s ∈ r, s.size ≤ a.size) := split_l a c hn _ 0 0 [] rfl (by omega) (by omega) (by simp) (by simp)
theorem strOfNums_size (l : List Int) : (strOfNums l).size = l.length := by simp [strOfNums, ByteArray.size]
theorem four_l (L : List ByteArray) (hL : L.length = 4) : ∀ (d i : Nat) (acc : List Int), 4 - i = d → i ≤ 4 → acc.length = i → Tot (fun k => conciergeref2_four.l0 k L acc (i : Int)) (fun r => r.1.size ≤ 4)
 | 0, i, acc, h, hi, ha => Tot.step (f := fun _ => some (strOfNums acc, true)) (fun k => by simp only [conciergeref2_four.l0]; rw [if_neg (by omega)]) (Tot.now (by simp only [strOfNums_size]; omega))
 | d + 1, i, acc, h, hi, ha => by
  refine Tot.step (f := fun k => (conciergeref2_Num.f k (rdOf ByteArray.empty L i) 255).bind fun bt116 => (if bt116.2 = true then (if acc.length < 140737488355328 then (conciergeref2_four.l0 k L (acc ++ [(bt116.1) % 256]) (wrap64 ((i : Int) + 1))) else (none)) else (some ((⟨#[]⟩ : ByteArray), false)))) (fun k => ?_) (Tot.bind (num_tot _ _) fun r _ => ?_)
  ·simp only [conciergeref2_four.l0]
   rw [if_pos (by omega), if_pos (by omega), if_pos (by omega)]
  ·by_cases hr : r.2 = true
   ·exact Tot.congr (fun k => by rw [if_pos hr, if_pos (by omega), wsuc i (by omega)]) (four_l L hL d (i + 1) (acc ++ [r.1 % 256]) (by omega) (by omega) (by simp [ha]))
   ·exact Tot.congr (fun k => by rw [if_neg hr]) (Tot.now (by simp [ByteArray.size]))
theorem four_tot (a : ByteArray) (hn : a.size ≤ 1000000) : Tot (fun k => conciergeref2_four.f k a) (fun r => r.1.size ≤ 4) := by
 unfold conciergeref2_four.f
 refine Tot.bind (split_tot a 46 hn) fun L hL => ?_
 by_cases h : (L.length : Int) = 4
 ·exact Tot.congr (fun k => by rw [if_pos h]; rfl) (four_l L (by omega) 4 0 [] rfl (by omega) rfl)
 ·exact Tot.congr (fun k => by rw [if_neg h]) (Tot.now (by simp [ByteArray.size]))
theorem hex_tot (x : Int) : Tot (fun k => conciergeref2_hex.f k x) (fun _ => True) := by
 have j1 : ∀ t, Tot (fun k => conciergeref2_hex.j1 k x t) (fun _ => True) := by
  intro t
  refine Tot.step (f := fun _ => if t = true then (some (((x - 97) % 256) + 10)) else (if x ≥ 65 then (if x ≤ 70 then (some (((x - 65) % 256) + 10)) else (some (-1))) else (some (-1)))) (fun k => by simp only [conciergeref2_hex.j1]) ?_
  split
  ·exact Tot.now trivial
  ·split
   ·split <;> exact Tot.now trivial
   ·exact Tot.now trivial
 have j0 : ∀ t, Tot (fun k => conciergeref2_hex.j0 k x t) (fun _ => True) := by
  intro t
  cases t with
  | true => exact Tot.step (f := fun _ => some ((x - 48) % 256)) (fun k => by simp [conciergeref2_hex.j0]) (Tot.now trivial)
  | false =>
   by_cases h : x ≥ 97
   ·exact Tot.step (fun k => by simp only [conciergeref2_hex.j0]; rw [if_neg (by decide), if_pos h]) (j1 _)
   ·exact Tot.step (fun k => by simp only [conciergeref2_hex.j0]; rw [if_neg (by decide), if_neg h]) (j1 _)
 unfold conciergeref2_hex.f
 by_cases h : x ≥ 48
 ·exact Tot.congr (fun k => by rw [if_pos h]) (j0 _)
 ·exact Tot.congr (fun k => by rw [if_neg h]) (j0 _)
theorem rd_size {L : List ByteArray} {n : Nat} (h : ∀ s ∈ L, s.size ≤ n) (i : Int) : (rdOf ByteArray.empty L i).size ≤ n := by
 unfold rdOf
 rw [List.getD_eq_getElem?_getD]
 by_cases hi : i.toNat < L.length
 ·rw [List.getElem?_eq_getElem hi]
  exact h _ (List.getElem_mem hi)
 ·rw [List.getElem?_eq_none (by omega)]
  exact Nat.zero_le _
section
variable (t : Bool) (L : List ByteArray) (i : Nat) (hi : i < L.length) (hl : L.length ≤ 1000001) (hz : ∀ s ∈ L, s.size ≤ 1000000) (acc : List Int) (ha : acc.length ≤ 4 * i)
 (nx : ∀ acc' : List Int, acc'.length ≤ 4 * (i + 1) → Tot (fun k => conciergeref2_groups.l0 k t L acc' ((i + 1 : Nat) : Int)) (fun r => r.1.length ≤ 4 * L.length))
include hi hl hz ha nx
theorem groups_l1 : ∀ (d j : Nat) (v : Int), (rdOf ByteArray.empty L i).size - j = d → Tot (fun k => conciergeref2_groups.l1 k t L acc (i : Int) v (j : Int)) (fun r => r.1.length ≤ 4 * L.length)
 | 0, j, v, h => by
  refine Tot.step (fun k => ?_) (nx (acc ++ [(wrap64 (Int.tdiv v 256)) % 256, (Int.tmod v 256) % 256]) (by simp; omega))
  simp only [conciergeref2_groups.l1]
  rw [if_pos (by omega), if_pos (by omega), if_neg (by omega)]
  simp only [Option.bind_some]
  rw [if_pos (by simp; omega), wsuc i (by omega)]
 | d + 1, j, v, h => by
  have hzi := rd_size hz (i : Int)
  refine Tot.step (f := fun k => (conciergeref2_hex.f k (bt (rdOf ByteArray.empty L (i : Int)) (j : Int))).bind fun t134 => (if t134 < 0 then (some (([] : List Int), false)) else (conciergeref2_groups.l1 k t L acc (i : Int) (wrap64 ((wrap64 (16 * v)) + t134)) (wrap64 ((j : Int) + 1))))) (fun k => ?_) (Tot.bind (hex_tot _) fun r _ => ?_)
  ·simp only [conciergeref2_groups.l1]
   rw [if_pos (by omega), if_pos (by omega), if_pos (by omega), if_pos (by omega)]
  ·by_cases hr : r < 0
   ·exact Tot.congr (fun k => by rw [if_pos hr]) (Tot.now (by simp))
   ·exact Tot.congr (fun k => by rw [if_neg hr, wsuc j (by omega)]) (groups_l1 d (j + 1) _ (by omega))
theorem groups_j3 (b : Bool) : Tot (fun k => conciergeref2_groups.j3 k t L acc (i : Int) b) (fun r => r.1.length ≤ 4 * L.length) := by
 cases b with
 | true => exact Tot.step (f := fun _ => some (([] : List Int), false)) (fun k => by simp [conciergeref2_groups.j3]) (Tot.now (by simp))
 | false => exact Tot.step (fun k => by simp only [conciergeref2_groups.j3]; rw [if_neg (by decide)]; rfl) (groups_l1 t L i hi hl hz acc ha nx _ 0 0 rfl)
theorem groups_j2 : Tot (fun k => conciergeref2_groups.j2 k t L acc (i : Int)) (fun r => r.1.length ≤ 4 * L.length) := by
 by_cases h : ((rdOf ByteArray.empty L (i : Int)).size : Int) < 1
 ·exact Tot.step (fun k => by simp only [conciergeref2_groups.j2]; rw [if_pos (by omega), if_pos (by omega), if_pos h]) (groups_j3 t L i hi hl hz acc ha nx true)
 ·exact Tot.step (fun k => by simp only [conciergeref2_groups.j2]; rw [if_pos (by omega), if_pos (by omega), if_neg h]) (groups_j3 t L i hi hl hz acc ha nx _)
theorem groups_j1 (b : Bool) : Tot (fun k => conciergeref2_groups.j1 k t L acc (i : Int) b) (fun r => r.1.length ≤ 4 * L.length) := by
 cases b with
 | false => exact Tot.step (fun k => by simp only [conciergeref2_groups.j1]; rw [if_neg (by decide)]) (groups_j2 t L i hi hl hz acc ha nx)
 | true =>
  refine Tot.step (f := fun k => (conciergeref2_four.f k (rdOf ByteArray.empty L (i : Int))).bind fun bt125 => (if bt125.2 = true then (if acc.length + bt125.1.size < 140737488355328 then (conciergeref2_groups.l0 k t L (acc ++ bytesOf bt125.1) (wrap64 ((i : Int) + 1))) else (none)) else (conciergeref2_groups.j2 k t L acc (i : Int)))) (fun k => ?_) (Tot.bind (four_tot _ (rd_size hz _)) fun r hr => ?_)
  ·simp only [conciergeref2_groups.j1]
   rw [if_pos trivial, if_pos (by omega), if_pos (by omega)]
  ·by_cases hb : r.2 = true
   ·exact Tot.congr (fun k => by rw [if_pos hb, if_pos (by omega), wsuc i (by omega)]) (nx _ (by rw [List.length_append, bytesOf_length]; omega))
   ·exact Tot.congr (fun k => by rw [if_neg hb]) (groups_j2 t L i hi hl hz acc ha nx)
end
theorem groups_l0 (t : Bool) (L : List ByteArray) (hl : L.length ≤ 1000001) (hz : ∀ s ∈ L, s.size ≤ 1000000) : ∀ (d i : Nat) (acc : List Int), L.length - i = d → i ≤ L.length → acc.length ≤ 4 * i → Tot (fun k => conciergeref2_groups.l0 k t L acc (i : Int)) (fun r => r.1.length ≤ 4 * L.length)
 | 0, i, acc, h, hi, ha => Tot.step (f := fun _ => some (acc, true)) (fun k => by simp only [conciergeref2_groups.l0]; rw [if_neg (by omega)]) (Tot.now (by simp only; omega))
 | d + 1, i, acc, h, hi, ha => by
  have nx := fun acc' (h' : acc'.length ≤ 4 * (i + 1)) => groups_l0 t L hl hz d (i + 1) acc' (by omega) (by omega) h'
  cases t with
  | true => exact Tot.step (fun k => by simp only [conciergeref2_groups.l0]; rw [if_pos (by omega), if_pos trivial]) (groups_j1 true L i (by omega) hl hz acc ha nx _)
  | false => exact Tot.step (fun k => by simp only [conciergeref2_groups.l0]; rw [if_pos (by omega), if_neg (by decide)]) (groups_j1 false L i (by omega) hl hz acc ha nx _)
theorem groups_tot (a : ByteArray) (t : Bool) (hn : a.size ≤ 1000000) : Tot (fun k => conciergeref2_groups.f k a t) (fun r => r.1.length ≤ 8000000) := by
 unfold conciergeref2_groups.f
 by_cases h : a.toList = ([] : List UInt8)
 ·exact Tot.congr (fun k => by rw [if_pos h]) (Tot.now (by simp))
 ·refine Tot.congr (fun k => by rw [if_neg h]) (Tot.bind (split_tot a 58 hn) fun L hL => ?_)
  exact (groups_l0 t L (by omega) (fun s hs => by have := hL.2 s hs; omega) _ 0 [] rfl (by omega) (by simp)).imp fun r hr => by omega
theorem parse_l0 (a : ByteArray) (hn : a.size ≤ 1000000) : ∀ (d i : Nat), a.size - i = d → i ≤ a.size → Tot (fun k => conciergeref2_Parse.l0 k a (i : Int)) (fun _ => True) := by
 have hend : ∀ i : Nat, ¬ ((i : Int) + 1 < (a.size : Int)) → i ≤ a.size → Tot (fun k => conciergeref2_Parse.l0 k a (i : Int)) (fun _ => True) := by
  intro i h hi
  refine Tot.step (f := fun k => (conciergeref2_groups.f k a true).bind fun bt138 => (if bt138.2 = true then (if (bt138.1.length : Int) = 16 then (some (strOfNums bt138.1, true)) else (some ((⟨#[]⟩ : ByteArray), false))) else (some ((⟨#[]⟩ : ByteArray), false)))) (fun k => ?_) (Tot.bind (groups_tot a true hn) fun r _ => ?_)
  ·simp only [conciergeref2_Parse.l0]
   rw [wsuc i (by omega), if_neg (by omega)]
  ·split
   ·split <;> exact Tot.now trivial
   ·exact Tot.now trivial
 intro d
 induction d with
 | zero => intro i h hi; exact hend i (by omega) hi
 | succ d ih =>
  intro i h hi
  by_cases he : (i : Int) + 1 < (a.size : Int)
  ·have nx : Tot (fun k => conciergeref2_Parse.j1 k a (i : Int) true) (fun _ => True) := Tot.step (fun k => by simp only [conciergeref2_Parse.j1]; rw [if_pos trivial, wsuc i (by omega)]) (ih (i + 1) (by omega) (by omega))
   have fin : Tot (fun k => conciergeref2_Parse.j1 k a (i : Int) false) (fun _ => True) := by
    have e2 : wrap64 ((i : Int) + 2) = (i : Int) + 2 := wid _ (by omega) (by omega)
    have z1 : (a.extract 0 ((i : Int)).toNat).size ≤ 1000000 := by rw [ByteArray.size_extract]; omega
    have z2 : (a.extract ((i : Int) + 2).toNat a.size).size ≤ 1000000 := by rw [ByteArray.size_extract]; omega
    refine Tot.step (f := fun k => (conciergeref2_groups.f k (a.extract 0 ((i : Int)).toNat) false).bind fun bt142 => (conciergeref2_groups.f k (a.extract ((i : Int) + 2).toNat a.size) true).bind fun bt146 => (if bt142.2 = true then (if bt146.2 = true then (if (wrap64 ((bt142.1.length : Int) + (bt146.1.length : Int))) > 14 then (some ((⟨#[]⟩ : ByteArray), false)) else (if 16 ≤ 281474976710656 then ((some (List.replicate 16 0 : List Int)).bind fun y150 => (if 0 ≤ (wrap64 (16 - (bt146.1.length : Int))) then (if (wrap64 (16 - (bt146.1.length : Int))) ≤ (y150.length : Int) then (pj bt142.1 bt146.1) else (none)) else (none))) else (none))) else (some ((⟨#[]⟩ : ByteArray), false))) else (some ((⟨#[]⟩ : ByteArray), false)))) (fun k => ?_) (Tot.bind (groups_tot _ _ z1) fun r1 h1 => Tot.bind (groups_tot _ _ z2) fun r2 h2 => ?_)
    ·simp only [conciergeref2_Parse.j1]
     rw [if_neg (by decide), if_pos (by omega), if_pos (by omega), e2]
     simp only [if_pos (show (0 : Int) ≤ (i : Int) + 2 by omega), if_pos (show (i : Int) + 2 ≤ (a.size : Int) by omega)]
    ·rw [wid ((r1.1.length : Int) + (r2.1.length : Int)) (by omega) (by omega), wid (16 - (r2.1.length : Int)) (by omega) (by omega)]
     split
     ·split
      ·split
       ·exact Tot.now trivial
       ·rename_i hs
        refine ⟨(strOfNums (r1.1 ++ List.replicate (16 - r1.1.length - r2.1.length) 0 ++ r2.1), true), trivial, Ev.congr (fun k => ?_) (Ev.now _)⟩
        rw [if_pos (by decide)]
        simp only [Option.bind_some]
        rw [if_pos (by omega), if_pos (by simp; omega)]
        unfold pj
        rw [if_pos (by omega)]
      ·exact Tot.now trivial
     ·exact Tot.now trivial
   have hj : ∀ b, Tot (fun k => conciergeref2_Parse.j1 k a (i : Int) b) (fun _ => True) := fun b => by cases b; exact fin; exact nx
   by_cases hc : bt a i = 58
   ·refine Tot.step (fun k => ?_) (hj (bt a (wrap64 ((i : Int) + 1)) != 58))
    simp only [conciergeref2_Parse.l0]
    rw [if_pos (by rw [wsuc i (by omega)]; omega), if_pos (by omega), if_pos (by omega), if_pos hc, if_pos (by rw [wsuc i (by omega)]; omega)]
   ·refine Tot.step (fun k => ?_) nx
    simp only [conciergeref2_Parse.l0]
    rw [if_pos (by rw [wsuc i (by omega)]; omega), if_pos (by omega), if_pos (by omega), if_neg hc]
  ·exact hend i he hi
theorem parse_tot (a : ByteArray) (hn : a.size ≤ 1000000) : Tot (fun k => conciergeref2_Parse.f k a) (fun _ => True) := by
 unfold conciergeref2_Parse.f
 refine Tot.bind (four_tot a hn) fun r _ => ?_
 by_cases h : r.2 = true
 ·exact Tot.congr (fun k => by rw [if_pos h]) (Tot.now trivial)
 ·exact Tot.congr (fun k => by rw [if_neg h]; rfl) (parse_l0 a hn _ 0 rfl (by omega))
theorem row_tot (a : ByteArray) (x y : Int) (hn : a.size ≤ 1000000) : Tot (fun k => conciergeref15_row.f k a x y) (fun _ => True) := by
 have j0 : ∀ (s : ByteArray) (n : Int) (b : Bool), Tot (fun k => conciergeref15_row.j0 k x y s n b) (fun _ => True) := by
  intro s n b
  have hm : ∃ m, conciergeref15_mapped.f s = some m := by
   unfold conciergeref15_mapped.f
   by_cases h : (s.size : Int) = 4
   ·rw [if_pos h, if_pos (by omega)]; exact ⟨_, rfl⟩
   ·rw [if_neg h]; exact ⟨_, rfl⟩
  obtain ⟨m, hm⟩ := hm
  refine Tot.step (f := fun _ => if b = true then (some ((⟨#[]⟩ : ByteArray), (0 : Int), (0 : Int), (0 : Int), false)) else (if (s.size : Int) = 4 then some (m, wrap64 (n + 96), x, y, true) else some (m, n, x, y, true))) (fun k => by simp only [conciergeref15_row.j0, hm, Option.bind_some]) ?_
  split
  ·exact Tot.now trivial
  ·split <;> exact Tot.now trivial
 unfold conciergeref15_row.f
 refine Tot.bind (split_tot a 47 hn) fun L hL => ?_
 by_cases h2 : (L.length : Int) = 2
 ·refine Tot.congr (f := fun k => (conciergeref2_Parse.f k (rdOf ByteArray.empty L 0)).bind fun bt146 => ((conciergeref2_Num.f k (rdOf ByteArray.empty L 1) (wrap64 (8 * (bt146.1.size : Int)))).bind fun bt149 => (if bt146.2 = true then (conciergeref15_row.j0 k x y bt146.1 bt149.1 (!bt149.2)) else (conciergeref15_row.j0 k x y bt146.1 bt149.1 true)))) (fun k => ?_) (Tot.bind (parse_tot _ (by have := rd_size hL.2 0; omega)) fun r1 _ => Tot.bind (num_tot _ _) fun r2 _ => ?_)
  ·rw [if_pos h2, if_pos (by omega)]
   simp only [if_pos (show (1 : Int) < (L.length : Int) by omega)]
  ·split
   ·exact j0 _ _ _
   ·exact j0 _ _ _
 ·exact Tot.congr (fun k => by rw [if_neg h2]) (Tot.now trivial)
theorem blank_some (x : Int) : ∃ b, conciergeref2_blank.f x = some b := by
 unfold conciergeref2_blank.f
 split
 ·exact ⟨_, rfl⟩
 ·split <;> exact ⟨_, rfl⟩
def wordsOk (n : Nat) (r : List ByteArray) : Prop := r.length ≤ n ∧ ∀ s ∈ r, s.size ≤ 1000000
theorem one_l0 (l : List Int) (hl : l.length ≤ 100000) : ∀ (d i : Nat) (acc : List ByteArray) (w : ByteArray) (b : Bool), l.length - i = d → i ≤ l.length → acc.length ≤ i → (∀ s ∈ acc, s.size ≤ 1000000) → w.size ≤ i →
  Tot (fun k => conciergeref2_one.l0 k l acc w b (i : Int)) (wordsOk (l.length + 1))
 | 0, i, acc, w, b, h, hi, ha, hz, hw => by
  by_cases he : w.toList = ([] : List UInt8)
  ·exact Tot.step (f := fun _ => some acc) (fun k => by simp only [conciergeref2_one.l0]; rw [if_neg (by omega), if_pos he]) (Tot.now ⟨by omega, hz⟩)
  ·refine Tot.step (f := fun _ => some (acc ++ [w])) (fun k => by simp only [conciergeref2_one.l0]; rw [if_neg (by omega), if_neg he, if_pos (by omega)]) (Tot.now ⟨by simp; omega, fun s hs => ?_⟩)
   rcases List.mem_append.1 hs with h1 | h1
   ·exact hz s h1
   ·rw [List.mem_singleton.1 h1]; omega
 | d + 1, i, acc, w, b, h, hi, ha, hz, hw => by
  have nx := fun acc' w' b' h1 h2 h3 => one_l0 l hl d (i + 1) acc' w' b' (by omega) (by omega) h1 h2 h3
  have hz' : ∀ s ∈ acc ++ [w], s.size ≤ 1000000 := by
   intro s hs
   rcases List.mem_append.1 hs with h1 | h1
   ·exact hz s h1
   ·rw [List.mem_singleton.1 h1]; omega
  have j2 : ∀ (b : Bool) (x : Int), Tot (fun k => conciergeref2_one.j2 k l acc w b (i : Int) x) (wordsOk (l.length + 1)) := by
   intro b x
   cases b with
   | true => exact Tot.step (fun k => by simp only [conciergeref2_one.j2]; rw [if_pos trivial, wsuc i (by omega)]) (nx acc w true (by omega) hz (by omega))
   | false =>
    obtain ⟨q, hq⟩ := blank_some x
    cases q with
    | true =>
     by_cases he : w.toList = ([] : List UInt8)
     ·exact Tot.step (fun k => by simp only [conciergeref2_one.j2, hq, Option.bind_some]; rw [if_neg (by decide), if_pos trivial, if_pos he, wsuc i (by omega)]) (nx acc (⟨#[]⟩ : ByteArray) false (by omega) hz (by simp [ByteArray.size]))
     ·exact Tot.step (fun k => by simp only [conciergeref2_one.j2, hq, Option.bind_some]; rw [if_neg (by decide), if_pos trivial, if_neg he, if_pos (by omega), wsuc i (by omega)]) (nx (acc ++ [w]) (⟨#[]⟩ : ByteArray) false (by simp; omega) hz' (by simp [ByteArray.size]))
    | false =>
     have hs1 : (strOfNums [x]).size = 1 := by rw [strOfNums_size]; rfl
     exact Tot.step (fun k => by simp only [conciergeref2_one.j2, hq, Option.bind_some]; rw [if_neg (by decide), if_neg (by decide), if_pos (by omega), wsuc i (by omega)]) (nx acc (w ++ strOfNums [x]) false (by omega) hz (by rw [ByteArray.size_append]; omega))
  have j1 : ∀ (b : Bool) (x : Int) (q : Bool), Tot (fun k => conciergeref2_one.j1 k l acc w b (i : Int) x q) (wordsOk (l.length + 1)) := by
   intro b x q
   cases q with
   | true => exact Tot.step (f := fun _ => some ([] : List ByteArray)) (fun k => by simp [conciergeref2_one.j1]) (Tot.now ⟨by simp, by simp⟩)
   | false =>
    cases b with
    | true => exact Tot.step (fun k => by simp only [conciergeref2_one.j1]; rw [if_neg (by decide), if_pos trivial]) (j2 true x)
    | false => exact Tot.step (fun k => by simp only [conciergeref2_one.j1]; rw [if_neg (by decide), if_neg (by decide)]) (j2 _ x)
  by_cases h32 : rd l (i : Int) < 32
  ·obtain ⟨q, hq⟩ := blank_some (rd l (i : Int))
   cases q with
   | true => exact Tot.step (fun k => by simp only [conciergeref2_one.l0, hq, Option.bind_some]; rw [if_pos (by omega), if_pos (by omega), if_pos h32, if_pos trivial]) (j1 b _ _)
   | false => exact Tot.step (fun k => by simp only [conciergeref2_one.l0, hq, Option.bind_some]; rw [if_pos (by omega), if_pos (by omega), if_pos h32, if_neg (by decide)]) (j1 b _ true)
  ·exact Tot.step (fun k => by simp only [conciergeref2_one.l0]; rw [if_pos (by omega), if_pos (by omega), if_neg h32]) (j1 b _ _)
theorem one_tot (l : List Int) : Tot (fun k => conciergeref2_one.f k l) (wordsOk 100001) := by
 unfold conciergeref2_one.f
 by_cases h : (l.length : Int) > 512
 ·exact Tot.congr (fun k => by rw [if_pos h]) (Tot.now ⟨by simp, by simp⟩)
 ·exact Tot.congr (fun k => by rw [if_neg h]; rfl) ((one_l0 l (by omega) _ 0 [] (⟨#[]⟩ : ByteArray) false rfl (by omega) (by simp) (by simp) (by simp [ByteArray.size])).imp fun r hr => ⟨by have := hr.1; omega, hr.2⟩)
def linesOk (n : Nat) (r : List S48) : Prop := r.length ≤ n ∧ ∀ x ∈ r, 0 < x.f1.length ∧ wordsOk 100001 x.f1
theorem lines_l0 (l : List Int) (hl : l.length ≤ 100000) : ∀ (d i : Nat) (acc : List S48) (n : Int) (st : Nat), l.length + 1 - i = d → i ≤ l.length + 1 → acc.length ≤ i → st ≤ i → (∀ x ∈ acc, 0 < x.f1.length ∧ wordsOk 100001 x.f1) →
  Tot (fun k => conciergeref2_Lines.l0 k l acc n (st : Int) (i : Int)) (linesOk (l.length + 1))
 | 0, i, acc, n, st, h, hi, ha, hs, hz => Tot.step (f := fun _ => some acc) (fun k => by simp only [conciergeref2_Lines.l0]; rw [if_neg (by omega)]) (Tot.now ⟨by omega, hz⟩)
 | d + 1, i, acc, n, st, h, hi, ha, hs, hz => by
  have j1 : ∀ b : Bool, Tot (fun k => conciergeref2_Lines.j1 k l acc n (st : Int) (i : Int) b) (linesOk (l.length + 1)) := by
   intro b
   cases b with
   | true => exact Tot.step (fun k => by simp only [conciergeref2_Lines.j1]; rw [if_pos trivial, wsuc i (by omega)]) (lines_l0 l hl d (i + 1) acc n st (by omega) (by omega) (by omega) (by omega) hz)
   | false =>
    refine Tot.step (f := fun k => (conciergeref2_one.f k ((l.take ((i : Int)).toNat).drop ((st : Int)).toNat)).bind fun t185 => (if (t185.length : Int) > 0 then (if acc.length < 4398046511104 then (conciergeref2_Lines.l0 k l (acc ++ [(⟨wrap64 (n + 1), t185⟩ : S48)]) (wrap64 (n + 1)) (wrap64 ((i : Int) + 1)) (wrap64 ((i : Int) + 1))) else (none)) else (conciergeref2_Lines.l0 k l acc (wrap64 (n + 1)) (wrap64 ((i : Int) + 1)) (wrap64 ((i : Int) + 1))))) (fun k => ?_) (Tot.bind (one_tot _) fun r hr => ?_)
    ·simp only [conciergeref2_Lines.j1]
     rw [if_neg (by decide), if_pos (by omega), if_pos (by omega), if_pos (by omega)]
    ·by_cases hp : (r.length : Int) > 0
     ·refine Tot.congr (fun k => by rw [if_pos hp, if_pos (by omega), wsuc i (by omega)]) (lines_l0 l hl d (i + 1) _ _ (i + 1) (by omega) (by omega) (by simp; omega) (by omega) fun x hx => ?_)
      rcases List.mem_append.1 hx with h1 | h1
      ·exact hz x h1
      ·rw [List.mem_singleton.1 h1]; exact ⟨by simp only; omega, hr⟩
     ·exact Tot.congr (fun k => by rw [if_neg hp, wsuc i (by omega)]) (lines_l0 l hl d (i + 1) acc _ (i + 1) (by omega) (by omega) (by omega) (by omega) hz)
  by_cases he : (i : Int) < (l.length : Int)
  ·exact Tot.step (fun k => by simp only [conciergeref2_Lines.l0]; rw [if_pos (by omega), if_pos he, if_pos (by omega)]) (j1 _)
  ·exact Tot.step (fun k => by simp only [conciergeref2_Lines.l0]; rw [if_pos (by omega), if_neg he]) (j1 _)
theorem lines_tot (l : List Int) (hl : l.length ≤ 100000) : Tot (fun k => conciergeref2_Lines.f k l) (linesOk (l.length + 1)) := lines_l0 l hl _ 0 [] 0 0 rfl (by omega) (by simp) (by omega) (by simp)
def rows5 : List S52 := [⟨⟨#[0, 0, 0, 0, 0, 0, 0, 0, 0, 0, 0, 0, 0, 0, 0, 1]⟩, 128, 0, 50⟩, ⟨⟨#[0, 0, 0, 0, 0, 0, 0, 0, 0, 0, 0, 0, 0, 0, 0, 0]⟩, 0, 1, 40⟩, ⟨⟨#[0, 0, 0, 0, 0, 0, 0, 0, 0, 0, 255, 255, 0, 0, 0, 0]⟩, 96, 4, 35⟩, ⟨⟨#[32, 2, 0, 0, 0, 0, 0, 0, 0, 0, 0, 0, 0, 0, 0, 0]⟩, 16, 2, 30⟩, ⟨⟨#[252, 0, 0, 0, 0, 0, 0, 0, 0, 0, 0, 0, 0, 0, 0, 0]⟩, 7, 13, 3⟩]
theorem rows_k : ∀ d, conciergeref15_Rows.f (d + 60) = some rows5 := fun d => by kernel_rfl
theorem rows_some : ∃ R, R.length = 5 ∧ Ev (fun k => conciergeref15_Rows.f k) R := ⟨rows5, rfl, 60, fun k hk => by
 obtain ⟨d, rfl⟩ : ∃ d, k = d + 60 := ⟨k - 60, by omega⟩
 exact rows_k d⟩
def selOk (r : List S52 × List ByteArray) : Prop := r.1.length ≤ 32 ∧ r.2.length ≤ 32
theorem select_l0 (M : List S48) (hM : linesOk 100001 M) : ∀ (d i : Nat) (R : List S52) (O : List ByteArray), M.length - i = d → i ≤ M.length → R.length ≤ 32 → O.length ≤ 32 → Tot (fun k => conciergeref15_Select.l0 k M (i : Int) R O) selOk
 | 0, i, R, O, h, hi, hR, hO => by
  by_cases hr : (R.length : Int) = 0
  ·obtain ⟨Q, hQ, hE⟩ := rows_some
   refine Tot.step (f := fun k => (conciergeref15_Rows.f k).bind fun t => some (t, O)) (fun k => by simp only [conciergeref15_Select.l0]; rw [if_neg (by omega), if_pos hr]) ⟨(Q, O), ⟨by simp only; omega, hO⟩, Ev.bind hE (Ev.now _)⟩
  ·exact Tot.step (f := fun _ => some (R, O)) (fun k => by simp only [conciergeref15_Select.l0]; rw [if_neg (by omega), if_neg hr]) (Tot.now ⟨hR, hO⟩)
 | d + 1, i, R, O, h, hi, hR, hO => by
  have hM1 := hM.1
  have hlt : i < M.length := by omega
  have hx : rd_T48 M (i : Int) = M[i] := by show M.getD i _ = _; simp [List.getD_eq_getElem?_getD, List.getElem?_eq_getElem hlt]
  obtain ⟨hpos, hw⟩ := hM.2 _ (List.getElem_mem hlt)
  generalize hm : M[i] = x at *
  have nx := fun R' O' h1 h2 => select_l0 M hM d (i + 1) R' O' (by omega) (by omega) h1 h2
  have j2 : ∀ b : Bool, (b = true → 1 < x.f1.length) → Tot (fun k => conciergeref15_Select.j2 k M (i : Int) x.f1 b R O) selOk := by
   intro b hb
   cases b with
   | false => exact Tot.step (fun k => by simp only [conciergeref15_Select.j2]; rw [if_neg (by decide), wsuc i (by omega)]) (nx R O hR hO)
   | true =>
    have hb' := hb rfl
    refine Tot.step (f := fun k => (conciergeref2_Parse.f k (rdOf ByteArray.empty x.f1 1)).bind fun bt219 => (if bt219.2 = true then (if (O.length : Int) < 32 then (if O.length < 8796093022208 then (conciergeref15_Select.l0 k M (wrap64 ((i : Int) + 1)) R (O ++ [bt219.1])) else (none)) else (conciergeref15_Select.l0 k M (wrap64 ((i : Int) + 1)) R O)) else (conciergeref15_Select.l0 k M (wrap64 ((i : Int) + 1)) R O))) (fun k => ?_) (Tot.bind (parse_tot _ (rd_size hw.2 1)) fun r _ => ?_)
    ·simp only [conciergeref15_Select.j2]
     rw [if_pos trivial, if_pos (by omega)]
    ·rw [wsuc i (by omega)]
     by_cases h1 : r.2 = true
     ·by_cases h2 : (O.length : Int) < 32
      ·exact Tot.congr (fun k => by rw [if_pos h1, if_pos h2, if_pos (by omega)]) (nx R (O ++ [r.1]) hR (by simp; omega))
      ·exact Tot.congr (fun k => by rw [if_pos h1, if_neg h2]) (nx R O hR hO)
     ·exact Tot.congr (fun k => by rw [if_neg h1]) (nx R O hR hO)
  have j1 : ∀ b : Bool, (b = true → x.f1.length = 4) → Tot (fun k => conciergeref15_Select.j1 k M (i : Int) x.f1 b R O) selOk := by
   intro b hb
   cases b with
   | false =>
    by_cases he : (rdOf ByteArray.empty x.f1 0).toList = ([111, 119, 110] : List UInt8)
    ·exact Tot.step (fun k => by simp only [conciergeref15_Select.j1]; rw [if_neg (by decide), if_pos (by omega), if_pos he]) (j2 _ (fun h => by have := beq_iff_eq.1 h; omega))
    ·exact Tot.step (fun k => by simp only [conciergeref15_Select.j1]; rw [if_neg (by decide), if_pos (by omega), if_neg he]) (j2 false (fun h => by cases h))
   | true =>
    have hb' := hb rfl
    refine Tot.step (f := fun k => (conciergeref2_Num.f k (rdOf ByteArray.empty x.f1 2) 1000).bind fun bt202 => (conciergeref2_Num.f k (rdOf ByteArray.empty x.f1 3) 1000).bind fun bt205 => (conciergeref15_row.f k (rdOf ByteArray.empty x.f1 1) bt202.1 bt205.1).bind fun bt208 => (if bt202.2 = true then (if bt205.2 = true then (if bt208.2.2.2.2 = true then (if (R.length : Int) < 32 then (if R.length < 3518437208883 then (conciergeref15_Select.l0 k M (wrap64 ((i : Int) + 1)) (R ++ [(⟨bt208.1, bt208.2.1, bt208.2.2.1, bt208.2.2.2.1⟩ : S52)]) O) else (none)) else (conciergeref15_Select.l0 k M (wrap64 ((i : Int) + 1)) R O)) else (conciergeref15_Select.l0 k M (wrap64 ((i : Int) + 1)) R O)) else (conciergeref15_Select.l0 k M (wrap64 ((i : Int) + 1)) R O)) else (conciergeref15_Select.l0 k M (wrap64 ((i : Int) + 1)) R O))) (fun k => ?_) (Tot.bind (num_tot _ _) fun r1 _ => Tot.bind (num_tot _ _) fun r2 _ => Tot.bind (row_tot _ _ _ (rd_size hw.2 1)) fun r3 _ => ?_)
    ·simp only [conciergeref15_Select.j1]
     rw [if_pos trivial, if_pos (by omega)]
     simp only [if_pos (show (3 : Int) < (x.f1.length : Int) by omega), if_pos (show (1 : Int) < (x.f1.length : Int) by omega)]
    ·rw [wsuc i (by omega)]
     by_cases h1 : r1.2 = true
     ·by_cases h2 : r2.2 = true
      ·by_cases h3 : r3.2.2.2.2 = true
       ·by_cases h4 : (R.length : Int) < 32
        ·exact Tot.congr (fun k => by rw [if_pos h1, if_pos h2, if_pos h3, if_pos h4, if_pos (by omega)]) (nx (R ++ [(⟨r3.1, r3.2.1, r3.2.2.1, r3.2.2.2.1⟩ : S52)]) O (by simp; omega) hO)
        ·exact Tot.congr (fun k => by rw [if_pos h1, if_pos h2, if_pos h3, if_neg h4]) (nx R O hR hO)
       ·exact Tot.congr (fun k => by rw [if_pos h1, if_pos h2, if_neg h3]) (nx R O hR hO)
      ·exact Tot.congr (fun k => by rw [if_pos h1, if_neg h2]) (nx R O hR hO)
     ·exact Tot.congr (fun k => by rw [if_neg h1]) (nx R O hR hO)
  by_cases he : (rdOf ByteArray.empty x.f1 0).toList = ([112, 114, 101, 102, 105, 120] : List UInt8)
  ·exact Tot.step (fun k => by simp only [conciergeref15_Select.l0]; rw [hx, if_pos (by omega), if_pos (by omega), if_pos (by omega), if_pos he]) (j1 _ (fun h => by have := beq_iff_eq.1 h; omega))
  ·exact Tot.step (fun k => by simp only [conciergeref15_Select.l0]; rw [hx, if_pos (by omega), if_pos (by omega), if_pos (by omega), if_neg he]) (j1 false (fun h => by cases h))
theorem select_tot (l : List Int) (hl : l.length ≤ 100000) : Tot (fun k => conciergeref15_Select.f k l) selOk := by
 unfold conciergeref15_Select.f
 refine Tot.bind (lines_tot l hl) fun M hM => ?_
 exact select_l0 M ⟨by have := hM.1; omega, hM.2⟩ _ 0 [] [] rfl (by omega) (by simp) (by simp)
end Go.Proofs.Ytlfhahnceeoegaa.All
end
section
set_option linter.unusedVariables false
set_option linter.unusedSimpArgs false
set_option maxRecDepth 100000
namespace Go.Proofs.Ytlfhahnceeoegaa.All
open Go.RowKit Go.Proofs.YtlfhahnceeoegaaW.PrintWords Go.Proofs.YtlfhahnceeoegaaW.PrintLast Go.Proofs.YtlfhahnceeoegaaW.PrintMore
theorem begun_k : ∀ d, conciergelaw20_begun.f (d + 100) = some true := fun d => by kernel_rfl
theorem begun_true : Ev (fun k => conciergelaw20_begun.f k) true := ⟨100, fun k hk => by
 obtain ⟨d, rfl⟩ : ∃ d, k = d + 100 := ⟨k - 100, by omega⟩
 exact begun_k d⟩
theorem cut_text (a : ByteArray) : ∃ r, conciergelaw2_Cut.f a 20 = some r := by
 unfold conciergelaw2_Cut.f
 by_cases h : (a.size : Int) > 20
 ·rw [if_pos h, if_pos (by omega), if_pos (by omega)]; exact ⟨_, rfl⟩
 ·rw [if_neg h]; exact ⟨_, rfl⟩
theorem cut_l (L : List S34) : ∀ (d i : Nat) (acc : List S34), 20 - i = d → acc.length = i → i ≤ 20 → ∃ r, r.length ≤ 20 ∧ Ev (fun k => conciergelaw20_Cut.l0 k L acc (i : Int)) r
 | d, i, acc, h, ha, hi => by
  by_cases h1 : i < L.length
  ·by_cases h2 : i < 20
   ·match d, h with
    | 0, h => omega
    | d + 1, h =>
     obtain ⟨t0, e0⟩ := cut_text (rd_T34 L (i : Int)).f0
     obtain ⟨t1, e1⟩ := cut_text (rd_T34 L (i : Int)).f1
     obtain ⟨r, hr, hE⟩ := cut_l L d (i + 1) (acc ++ [⟨t0, t1⟩]) (by omega) (by simp [ha]) (by omega)
     refine ⟨r, hr, Ev.step (f := fun k => conciergelaw20_Cut.j1 k L acc (i : Int) true) (fun k => ?_) (Ev.step (fun k => ?_) hE)⟩
     ·simp only [conciergelaw20_Cut.l0]
      rw [if_pos (by omega), decide_eq_true (by omega)]
     ·simp only [conciergelaw20_Cut.j1, if_pos]
      rw [if_pos (by omega), if_pos (by omega), e0, e1]
      simp only [Option.bind]
      rw [if_pos (by omega), w_succ i 21 (by omega) (by omega)]
   ·refine ⟨acc, by omega, Ev.step (f := fun k => conciergelaw20_Cut.j1 k L acc (i : Int) false) (fun k => ?_) (Ev.step (f := fun _ => some acc) (fun k => ?_) (Ev.now _))⟩
    ·simp only [conciergelaw20_Cut.l0]
     rw [if_pos (by omega), decide_eq_false (by omega)]
    ·simp [conciergelaw20_Cut.j1]
  ·refine ⟨acc, by omega, Ev.step (f := fun k => conciergelaw20_Cut.j1 k L acc (i : Int) false) (fun k => ?_) (Ev.step (f := fun _ => some acc) (fun k => ?_) (Ev.now _))⟩
   ·simp only [conciergelaw20_Cut.l0]
    rw [if_neg (by omega)]
   ·simp [conciergelaw20_Cut.j1]
end Go.Proofs.Ytlfhahnceeoegaa.All
end
section
set_option linter.unusedVariables false
set_option linter.unusedSimpArgs false
set_option maxRecDepth 100000
namespace Go.Proofs.Ytlfhahnceeoegaa.All
open Go.RowKit Go.Proofs.YtlfhahnceeoegaaW.PrintWords Go.Proofs.YtlfhahnceeoegaaW.PrintLast Go.Proofs.YtlfhahnceeoegaaW.PrintMore
theorem short_some (l : List Int) : ∃ r, r.length ≤ 800 ∧ conciergelaw1_Short.f l 800 = some r := by
 unfold conciergelaw1_Short.f
 by_cases h : (l.length : Int) > 800
 ·rw [if_pos h, if_pos (by omega), if_pos (by omega)]
  exact ⟨_, by rw [List.length_take]; show min 800 l.length ≤ 800; omega, rfl⟩
 ·rw [if_neg h]; exact ⟨l, by omega, rfl⟩
theorem keyed_of {R : List S52} {O : List ByteArray} {kd : S34 → S59} (hn : R.length ≤ 4611686018427387904)
  (hk : ∀ p, Ev (fun k => order_Keys.f k R O p.f0 p.f1) ((kd p).f1.f0, (kd p).f1.f1, (kd p).f1.f2, (kd p).f1.f3, (kd p).f1.f4, (kd p).f1.f5)) : KeyedBy R O kd := by
 intro p
 obtain ⟨r, h1, h2⟩ := keys_sync R O hn p.f0 p.f1
 rw [Ev.uniq (hk p) h1]
 exact h2
theorem same_sort (R : List S52) (O : List ByteArray) (hn : R.length ≤ 4611686018427387904) (C M : List S34) (hC : C.length ≤ 20) (hM : M.length = C.length) : ∀ (d i : Nat), M.length - i = d → i ≤ M.length → Ev (fun k => conciergelaw20_OrderSort.l0 k true C M M (i : Int) R O) true
 | 0, i, h, hi => Ev.step (f := fun _ => some true) (fun k => by simp only [conciergelaw20_OrderSort.l0]; rw [if_neg (by omega)]) (Ev.now _)
 | d + 1, i, h, hi => by
  obtain ⟨r, h1, h2⟩ := keys_sync R O hn (rd_T34 C (i : Int)).f0 (rd_T34 C (i : Int)).f1
  refine Ev.step (f := fun k => conciergelaw20_OrderSort.j1 k true C M M (i : Int) false R O) (fun k => ?_) ?_
  ·simp only [conciergelaw20_OrderSort.l0]
   rw [if_pos (by omega), if_pos (by omega), if_pos (by omega), if_pos trivial]
   congr 1
   simp
  ·refine Ev.step (f := fun k => (order_Keys.f k R O (rd_T34 C (i : Int)).f0 (rd_T34 C (i : Int)).f1).bind fun bt420 => (conciergeref15_Keys.f k R O (rd_T34 C (i : Int)).f0 (rd_T34 C (i : Int)).f1).bind fun bt427 => (if (!(bt420.1 == bt427.1) || (!(bt420.2.1 == bt427.2.1) || (!(bt420.2.2.1 == bt427.2.2.1) || (!(bt420.2.2.2.1 == bt427.2.2.2.1) || (!(bt420.2.2.2.2.1 == bt427.2.2.2.2.1) || (!(bt420.2.2.2.2.2 == bt427.2.2.2.2.2))))))) = true then (some false) else (conciergelaw20_OrderSort.l0 k true C M M (wrap64 ((i : Int) + 1)) R O))) (fun k => ?_) (Ev.bind h1 (Ev.bind h2 ?_))
   ·simp only [conciergelaw20_OrderSort.j1]
    rw [if_neg (by decide), if_pos (by omega), if_pos (by omega)]
   ·refine Ev.congr (fun k => ?_) (same_sort R O hn C M hC hM d (i + 1) (by omega) (by omega))
    rw [if_neg (by simp), w_succ i 21 (by omega) (by omega)]
theorem sort_true (t : List Int) (L : List S34) : ∃ k, conciergelaw20_OrderSort.f k t L = some true := by
 obtain ⟨s, hs, hse⟩ := short_some t
 obtain ⟨⟨R, O⟩, ⟨hR, hO⟩, hSel⟩ := select_tot s (by omega)
 simp only at hR hO
 obtain ⟨kd, h0, hk, hS⟩ := sort_some R O (by omega)
 obtain ⟨C, hC, hCe⟩ := cut_l L 20 0 [] rfl rfl (by omega)
 have s1 := hS C hC
 have s2 := ref_sort h0 (keyed_of (by omega) hk) C hC
 have hl : ((isort (C.map kd)).map (·.f0)).length = C.length := by
  rw [List.length_map, (isort_perm _).length_eq, List.length_map]
 generalize hM : (isort (C.map kd)).map (·.f0) = M at s1 s2 hl
 refine Ev.rounds ?_
 unfold conciergelaw20_OrderSort.f
 refine Ev.bind begun_true (Ev.congr (fun k => if_pos rfl) ?_)
 rw [hse]
 simp only [Option.bind_some]
 refine Ev.bind hSel ?_
 refine Ev.bind (a := C) hCe ?_
 refine Ev.bind s1 (Ev.bind s2 ?_)
 refine Ev.congr (fun k => if_pos rfl) ?_
 exact same_sort R O (by omega) C M hC hl M.length 0 (by omega) (by omega)
end Go.Proofs.Ytlfhahnceeoegaa.All
end
section
set_option linter.unusedVariables false
namespace Go.Proofs.Ytlfhahnceeoegaa.All
open Go.RowKit Go.ChangeShapes Go.WideShapes Go.Deep Go.Proofs.YtlfhahnceeoegaaW.PrintWords
section
variable {H : Type} {enc : TypeId × Value → H} {P : Program} {w : World} {base : Nat} {spare : Nat → Bool} {held : Bool}
theorem open_fields {t e : TypeId} {fs : Array Field} {fuel : Nat} {cs : List Value} {x : DataW H × List MemPlace} (ht : P.underlying t = some (.slice e)) (he : P.underlying e = some (.struct fs))
  (hone : oneCellFields P fs = true) (hC : P.cellsOf e = fs.size) (h : DataW.trod enc P w base spare held fuel t cs = some x) :
  cs = [.slice none 0 0] ∨
  ∃ (a : Addr) (len cap m : Nat), cs = [.slice (some a) len cap] ∧ len ≤ cap ∧ cap ≤ maxLen ∧ m = (if spare a.block then cap else len) ∧
   ∀ i, i < m → ∃ n : Nat, ∀ (j : Nat) (f : Field), fs[j]? = some f → ∃ (v : Value) (y : DataW H × List MemPlace), w.cell? (a.add (i * fs.size + j)) = some v ∧ DataW.trod enc P w base spare held n f.type [v] = some y := by
 rcases open_slice ht h with h0 | ⟨a, len, cap, m, n, D, Pl, hcs, hb, hl, hm, hmm, hx, hi⟩
 ·exact .inl h0.1
 ·refine .inr ⟨a, len, cap, m, hcs, hl, hm, hmm, fun i him => ?_⟩
  obtain ⟨cs', hc, ht'⟩ := hi i him
  rw [hC] at hc
  obtain ⟨ys, n', hn', hy, hlen, hyl, hf⟩ := DataW.trod_struct he ht'
  obtain ⟨_, hcl, hat⟩ := World.cells?_some hc
  refine ⟨n', fun j f hj => ?_⟩
  obtain ⟨ho, hk⟩ := hone_of hone j f hj
  have hjl : j < fs.size := (Array.getElem?_eq_some_iff.1 hj).1
  have hcell := hat j hjl
  have hv : cs'[j]? = some (cs'[j]'(by omega)) := List.getElem?_eq_getElem (by omega)
  have h1 := hf j f hj
  rw [ho, hk] at h1
  have hone' : (cs'.drop j).take 1 = [cs'[j]'(by omega)] := by
   rw [List.drop_eq_getElem_cons (by omega)]
   rfl
  rw [hone'] at h1
  have hys : ys[j]? = some (ys[j]'(by omega)) := List.getElem?_eq_getElem (by omega)
  refine ⟨_, _, ?_, h1.trans hys⟩
  rw [← Go.Deep.add_add, hcell, hv]
end
section
variable {H : Type} {enc : TypeId × Value → H} {P : Program} {W : World} {base : Nat} {held : Bool} {A : Option Addr} {len cap fuel : Nat} {x : DataW H × List MemPlace} {t e : TypeId}
theorem cells_of {α : Type} (en : α → Value) (h1 : ∀ y, (en y).oneCell' = true) (d : α) (ht : P.underlying t = some (.slice e)) (hc1 : P.cellsOf e = 1)
  (hel : ∀ (n : Nat) (cs : List Value) (y : DataW H × List MemPlace), DataW.trod enc P W base (fun _ => true) held n e cs = some y → ∃ v : α, cs = [en v])
  (h : DataW.trod enc P W base (fun _ => true) held fuel t [.slice A len cap] = some x) : ∃ l : List α, l.length = len ∧ len ≤ cap ∧ (Kd.scalar en h1).C W A l.length l := by
 rcases open_slice ht h with h0 | ⟨a, len', cap', m, n, D, Pl, hcs, hb, hl, hm, hmm, hx, hi⟩
 ·have h0 := h0.1
  simp only [List.cons.injEq, Value.slice.injEq, and_true] at h0
  obtain ⟨rfl, rfl, rfl⟩ := h0
  exact ⟨[], rfl, Nat.le_refl _, Kd.C_nil _ _⟩
 ·simp only [List.cons.injEq, Value.slice.injEq, and_true] at hcs
  obtain ⟨rfl, rfl, rfl⟩ := hcs
  have hs : ∀ i, i < len → ∃ v : α, W.cell? (a.add i) = some (en v) := by
   intro i hlt
   obtain ⟨cs', hc, ht'⟩ := hi i (by rw [hmm]; simp; omega)
   rw [hc1] at hc
   obtain ⟨v, rfl⟩ := hel _ _ _ ht'
   obtain ⟨_, hcl, hat⟩ := World.cells?_some hc
   have := hat 0 (by omega)
   exact ⟨v, by rw [Nat.mul_one, Addr.add_zero'] at this; simpa using this⟩
  let f : Nat → α := fun i => if hlt : i < len then Classical.choose (hs i hlt) else d
  refine ⟨(List.range len).map f, by simp, hl, Kd.C_of_reads (d := d) ⟨rfl, by simp only [maxLen] at hm; simp; omega, fun hn => ⟨a, rfl, fun j hj => ?_⟩⟩⟩
  have hlt : j < len := by simpa using hj
  have hf : f j = Classical.choose (hs j hlt) := dif_pos hlt
  rw [Classical.choose_spec (hs j hlt), ← hf]
  simp [List.getD_eq_getElem?_getD, hlt]
theorem nums_of {k : IntKind} (ht : P.underlying t = some (.slice e)) (he : P.underlying e = some (.int k)) (hc1 : P.cellsOf e = 1)
  (h : DataW.trod enc P W base (fun _ => true) held fuel t [.slice A len cap] = some x) : ∃ l : List Int, l.length = len ∧ len ≤ cap ∧ (Kd.int k).C W A l.length l :=
 cells_of (Value.int k) (fun _ => rfl) 0 ht hc1 (fun n cs y hy => by obtain ⟨v, e, _⟩ := DataW.trod_int he hy; exact ⟨v, e⟩) h
end
theorem pairs_of {H : Type} {enc : TypeId × Value → H} {W : World} {base : Nat} {held : Bool} {A : Option Addr} {len cap fuel : Nat} {x : DataW H × List MemPlace}
  (h : DataW.trod enc Try.prog W base (fun _ => true) held fuel 23 [.slice A len cap] = some x) : ∃ l : List S34, l.length = len ∧ len ≤ cap ∧ Kd.C k34 W A l.length l := by
 rcases open_fields Try.underlying23 Try.underlying34 (by kernel_rfl) (by kernel_rfl) h with h0 | ⟨a, len', cap', m, hcs, hl, hm, hmm, hi⟩
 ·simp only [List.cons.injEq, Value.slice.injEq, and_true] at h0
  obtain ⟨rfl, rfl, rfl⟩ := h0
  exact ⟨[], rfl, Nat.le_refl _, Kd.C_nil _ _⟩
 ·simp only [List.cons.injEq, Value.slice.injEq, and_true] at hcs
  obtain ⟨rfl, rfl, rfl⟩ := hcs
  have hs : ∀ i, i < len → ∃ p : S34, W.cell? (a.add (i * 2)) = some (.string p.f0) ∧ W.cell? (a.add (i * 2 + 1)) = some (.string p.f1) := by
   intro i hlt
   obtain ⟨n, hf⟩ := hi i (by rw [hmm]; simp; omega)
   obtain ⟨v0, y0, c0, t0⟩ := hf 0 _ rfl
   obtain ⟨v1, y1, c1, t1⟩ := hf 1 _ rfl
   obtain ⟨s0, e0, _, _⟩ := DataW.trod_string Try.underlying9 t0
   obtain ⟨s1, e1, _, _⟩ := DataW.trod_string Try.underlying9 t1
   simp only [List.cons.injEq, and_true] at e0 e1
   subst e0; subst e1
   exact ⟨⟨s0, s1⟩, c0, c1⟩
  let f : Nat → S34 := fun i => if hlt : i < len then Classical.choose (hs i hlt) else z34
  refine ⟨(List.range len).map f, by simp, hl, by simp, by simp only [maxLen] at hm; simp; omega, fun hn => ⟨a, rfl, fun j p hj => ?_⟩⟩
  have hlt : j < len := by
   have := (List.getElem?_eq_some_iff.1 hj).1
   simpa using this
  have hp : p = f j := by
   have := (List.getElem?_eq_some_iff.1 hj).2
   simpa using this.symm
  have hf : f j = Classical.choose (hs j hlt) := dif_pos hlt
  have hspec := Classical.choose_spec (hs j hlt)
  rw [← hf, ← hp] at hspec
  refine ⟨[.string p.f0, .string p.f1], rfl, k34_mk W p, fun i u hu => ?_⟩
  match i, hu with
  | 0, hu =>
   have : u = .string p.f0 := by simpa using hu.symm
   rw [this]; exact hspec.1
  | 1, hu =>
   have : u = .string p.f1 := by simpa using hu.symm
   rw [this]; exact hspec.2
  | n + 2, hu => simp at hu
end Go.Proofs.Ytlfhahnceeoegaa.All
end
