/- OrderTwice answers true at every argument, and its argument reads as it did. (text 8 of 9) -/
import Derived.Test.YtleimaahdjljoaaTw2
import Derived.Test.YtleimaahdjljoaaTw3
import Derived.Test.YtleimaahdjljoaaTw5
import Derived.Test.YtleimaahdjljoaaTw7
import Derived.Sort.LotA
import Derived.Laws.BitsAllLaws
import Derived.Test.YtleimaahdjljoaaTw4
import Derived.ProofKit
import Derived.Deep.Slices
import Derived.Deep.Fields
import Derived.ChangeSame
import Derived.SliceStrings
namespace Go.Proofs.YtleimaahdjljoaaW.PrintLast
end Go.Proofs.YtleimaahdjljoaaW.PrintLast
namespace Go.Proofs.YtleimaahdjljoaaW.PrintMore
end Go.Proofs.YtleimaahdjljoaaW.PrintMore
namespace Go.Proofs.YtleimaahdjljoaaW.PrintWords
end Go.Proofs.YtleimaahdjljoaaW.PrintWords
section
namespace Go.Proofs.Ytleimaahdjljoaa.All
open Go.RowKit Go.Proofs.YtleimaahdjljoaaW.PrintWords Go.Proofs.YtleimaahdjljoaaW.PrintLast Go.Proofs.YtleimaahdjljoaaW.PrintMore
set_option linter.unusedVariables false
set_option linter.unusedSimpArgs false
def conciergelaw20_OrderTwice.l0 : Nat → Bool → List (S34) → List (S34) → Int → Option (Bool)
 | 0, _, _, _, _ => none
 | k + 1, x3, x5, x6, x7 => if x7 < (x5.length : Int) then (if 0 ≤ x7 then (if x7 < (x6.length : Int) then (if ((rd_T34 x5 x7).f0).toList = ((rd_T34 x6 x7).f0).toList then (if ((rd_T34 x5 x7).f1).toList = ((rd_T34 x6 x7).f1).toList then (conciergelaw20_OrderTwice.l0 k x3 x5 x6 (wrap64 (x7 + 1))) else (some false)) else (some false)) else (none)) else (none)) else (some x3)
def conciergelaw20_OrderTwice.f (k : Nat) (l0 : List (S34)) : Option (Bool) := (conciergelaw20_begun.f k).bind fun t323 => (if t323 = true then ((conciergeref15_Rows.f k).bind fun t324 => ((conciergelaw20_Cut.f k l0).bind fun t328 => ((order_Sort.f k t324 ([] : List ByteArray) t328).bind fun t331 => ((order_Sort.f k t324 ([] : List ByteArray) t331).bind fun t334 => (if (t331.length : Int) = (t334.length : Int) then (conciergelaw20_OrderTwice.l0 k t323 t331 t334 0) else (some false)))))) else (some false))
theorem conciergelaw20_OrderTwice.mono_l : ∀ k, (∀ y0 y1 y2 y3, LeO (conciergelaw20_OrderTwice.l0 k y0 y1 y2 y3) (conciergelaw20_OrderTwice.l0 (k + 1) y0 y1 y2 y3))
 | 0 => fun _ _ _ _ r h => by simp [conciergelaw20_OrderTwice.l0] at h
 | k + 1 => by
  have ih0 := conciergelaw20_OrderTwice.mono_l k
  ·intro y0 y1 y2 y3
   unfold conciergelaw20_OrderTwice.l0
   repeat' first
   | (with_reducible exact ih0 _ _ _ _)
   | (with_reducible exact conciergelaw20_Cut.mono _ _)
   | (with_reducible exact conciergelaw20_begun.mono _)
   | (with_reducible exact conciergeref15_Rows.mono _)
   | (with_reducible exact order_Sort.mono _ _ _ _)
   | (with_reducible exact LeO.refl _)
   | (with_reducible exact LeO.none _)
   | (with_reducible refine LeO.ite ?_ ?_)
   | (with_reducible refine LeO.bind ?_ (fun _ => ?_))
   | exact ih0 _ _ _ _
   | exact conciergelaw20_Cut.mono _ _
   | exact conciergelaw20_begun.mono _
   | exact conciergeref15_Rows.mono _
   | exact order_Sort.mono _ _ _ _
   | exact LeO.none _
   | refine LeO.ite ?_ ?_
   | refine LeO.bind ?_ (fun _ => ?_)
theorem conciergelaw20_OrderTwice.mono : ∀ a0 k, LeO (conciergelaw20_OrderTwice.f k a0) (conciergelaw20_OrderTwice.f (k + 1) a0) := by
 intro a0 k
 have ih0 := conciergelaw20_OrderTwice.mono_l k
 unfold conciergelaw20_OrderTwice.f
 repeat' first
   | (with_reducible exact ih0 _ _ _ _)
   | (with_reducible exact conciergelaw20_Cut.mono _ _)
   | (with_reducible exact conciergelaw20_begun.mono _)
   | (with_reducible exact conciergeref15_Rows.mono _)
   | (with_reducible exact order_Sort.mono _ _ _ _)
   | (with_reducible exact LeO.refl _)
   | (with_reducible exact LeO.none _)
   | (with_reducible refine LeO.ite ?_ ?_)
   | (with_reducible refine LeO.bind ?_ (fun _ => ?_))
   | exact ih0 _ _ _ _
   | exact conciergelaw20_Cut.mono _ _
   | exact conciergelaw20_begun.mono _
   | exact conciergeref15_Rows.mono _
   | exact order_Sort.mono _ _ _ _
   | exact LeO.none _
   | refine LeO.ite ?_ ?_
   | refine LeO.bind ?_ (fun _ => ?_)
def conciergelaw20_OrderTwice.T12 : Bool × List (List Nat × List Nat) := (true, [([], []), ([], []), ([0, 1], [0, 1]), ([2], [2]), ([3], [3]), ([], []), ([], []), ([5, 6], [5, 6]), ([7], [7]), ([8], [8]), ([4, 9], [4, 9]), ([10], [10]), ([11], [11]), ([11], [11]), ([12, 13, 11], [11, 12, 13]), ([14, 11], [11, 14]), ([15, 11], [11, 15]), ([11], [11]), ([11], [11]), ([17, 18, 11], [11, 17, 18]), ([19, 11], [11, 19]), ([20, 11], [11, 20]), ([16, 21, 11], [11, 16, 21]), ([11, 22], [11, 22])])
def conciergelaw20_OrderTwice.B12 : List Nat := [0, 0, 3, 7, 15, 0, 0, 96, 224, 480, 1023, 2047, 4095, 4095, 16383, 32767, 65535, 4095, 4095, 397311, 921599, 1970175, 4194303, 8388607]
theorem conciergelaw20_OrderTwice.tab12 : rtab .any (opsOf Try.f5 12) = conciergelaw20_OrderTwice.T12 := by kernel_rfl
theorem conciergelaw20_OrderTwice.bits12 : waitsOk conciergelaw20_OrderTwice.T12.2 conciergelaw20_OrderTwice.B12 = true := by kernel_rfl
set_option maxHeartbeats 8000000 in
set_option maxRecDepth 100000 in
theorem conciergelaw20_OrderTwice.calls (k : Nat) (A0 : Option Addr) (c0 : Nat) (l0 : List (S34)) (r : Bool) (w : World) (hr0 : Kd.C k34 w A0 l0.length l0) (hc0 : l0.length ≤ c0) (h : conciergelaw20_OrderTwice.f k l0 = some r) :
  Calls Try.prog 5 #[.slice A0 l0.length c0] w fun e w' => e = .returned (.bool r) ∧ Below w.heap.size w w' := by
 have hu28 := Try.underlying28
 have HR0 := Aside0.mk hr0
 have HC0 := Aside0.mk hc0
 clear hr0 hc0
 have HB := Aside0.mk (Below.refl w.heap.size w)
 have H : ((conciergelaw20_begun.f k).bind fun t323 => (if t323 = true then ((conciergeref15_Rows.f k).bind fun t324 => ((conciergelaw20_Cut.f k l0).bind fun t328 => ((order_Sort.f k t324 ([] : List ByteArray) t328).bind fun t331 => ((order_Sort.f k t324 ([] : List ByteArray) t331).bind fun t334 => (if (t331.length : Int) = (t334.length : Int) then (conciergelaw20_OrderTwice.l0 k t323 t331 t334 0) else (some false)))))) else (some false))) = some r := h
 clear h
 replace H := Option.bind_eq_some_iff.mp H
 obtain ⟨t323, A20, H⟩ := H
 replace H : (if t323 = true then ((conciergeref15_Rows.f k).bind fun t324 => ((conciergelaw20_Cut.f k l0).bind fun t328 => ((order_Sort.f k t324 ([] : List ByteArray) t328).bind fun t331 => ((order_Sort.f k t324 ([] : List ByteArray) t331).bind fun t334 => (if (t331.length : Int) = (t334.length : Int) then (conciergelaw20_OrderTwice.l0 k t323 t331 t334 0) else (some false)))))) else (some false)) = some r := H
 have A2 := Aside0.mk A20
 clear A20
 by_cases c3 : t323 = true
 ·subst c3
  have H1 : ((conciergeref15_Rows.f k).bind fun t324 => ((conciergelaw20_Cut.f k l0).bind fun t328 => ((order_Sort.f k t324 ([] : List ByteArray) t328).bind fun t331 => ((order_Sort.f k t324 ([] : List ByteArray) t331).bind fun t334 => (if (t331.length : Int) = (t334.length : Int) then (conciergelaw20_OrderTwice.l0 k true t331 t334 0) else (some false)))))) = some r := by rw [if_pos rfl] at H; exact H
  clear H
  have H := H1
  clear H1
  replace H := Option.bind_eq_some_iff.mp H
  obtain ⟨t324, A40, H⟩ := H
  replace H : ((conciergelaw20_Cut.f k l0).bind fun t328 => ((order_Sort.f k t324 ([] : List ByteArray) t328).bind fun t331 => ((order_Sort.f k t324 ([] : List ByteArray) t331).bind fun t334 => (if (t331.length : Int) = (t334.length : Int) then (conciergelaw20_OrderTwice.l0 k true t331 t334 0) else (some false))))) = some r := H
  have A4 := Aside0.mk A40
  clear A40
  replace H := Option.bind_eq_some_iff.mp H
  obtain ⟨t328, A50, H⟩ := H
  replace H : ((order_Sort.f k t324 ([] : List ByteArray) t328).bind fun t331 => ((order_Sort.f k t324 ([] : List ByteArray) t331).bind fun t334 => (if (t331.length : Int) = (t334.length : Int) then (conciergelaw20_OrderTwice.l0 k true t331 t334 0) else (some false)))) = some r := H
  have A5 := Aside0.mk A50
  clear A50
  replace H := Option.bind_eq_some_iff.mp H
  obtain ⟨t331, A60, H⟩ := H
  replace H : ((order_Sort.f k t324 ([] : List ByteArray) t331).bind fun t334 => (if (t331.length : Int) = (t334.length : Int) then (conciergelaw20_OrderTwice.l0 k true t331 t334 0) else (some false))) = some r := H
  have A6 := Aside0.mk A60
  clear A60
  replace H := Option.bind_eq_some_iff.mp H
  obtain ⟨t334, A70, H⟩ := H
  replace H : (if (t331.length : Int) = (t334.length : Int) then (conciergelaw20_OrderTwice.l0 k true t331 t334 0) else (some false)) = some r := H
  have A7 := Aside0.mk A70
  clear A70
  by_cases c8 : (t331.length : Int) = (t334.length : Int)
  ·rw [if_pos c8] at H
   have c8b0 : ((t331.length : Int) == (t334.length : Int)) = true := beq_iff_eq.mpr c8
   have c8b1 : ((t331.length : Int) != (t334.length : Int)) = false := bne_eq_false_iff_eq.mpr c8
   have c8b2 : (t331.length == t334.length) = true := by first | simpa using c8 | (simp at c8 ⊢; omega)
   clear c8
   have H' := Aside0.mk H
   clear H
   go_enter Try.func5, Try.ntmps5
   try go_wp2_with (first | ((with_reducible refine gate_callee (f := 7) rfl ?_); refine goesL_ (some 8) rfl rfl Try.func7 (by kernel_rfl) rfl #[] rfl (by (try simp only [List.map_toArray, List.map_cons, List.map_nil]); first | done | rfl | (simp only [List.length_drop, List.length_take]; rfl)) ?_; (with_reducible refine (conciergelaw20_begun.calls k  true _ A2.out).mono ?_); rintro e w9 ⟨rfl, hb⟩; refine ⟨_, rfl, ?_⟩; have n0_ := Aside0.mk (below_step (by repeat (first | (with_reducible first | exact HB.out | apply below_alloc | apply pw_below_drewN | apply below_drew1) | exact HB.out)) hb); clear HB; have HB := n0_; clear n0_; (try clear hb); (try clear hb2); (try clear hk); (try clear hi)) | ((with_reducible refine gate_callee (f := 19) rfl ?_); refine goesL_ (some 11) rfl rfl Try.func19 (by kernel_rfl) rfl #[] rfl (by (try simp only [List.map_toArray, List.map_cons, List.map_nil]); first | done | rfl | (simp only [List.length_drop, List.length_take]; rfl)) ?_; (with_reducible refine (conciergeref15_Rows.calls k  t324 _ A4.out).mono ?_); rintro e w10 ⟨v325, rfl, ho0, hb⟩; refine ⟨_, rfl, ?_⟩; have n0_ := Aside0.mk (Kd.R_lower ho0 (below_size (by repeat (first | (with_reducible first | exact HB.out | apply below_alloc | apply pw_below_drewN | apply below_drew1) | exact HB.out)))); have n1_ := Aside0.mk (below_step (by repeat (first | (with_reducible first | exact HB.out | apply below_alloc | apply pw_below_drewN | apply below_drew1) | exact HB.out)) hb); clear HB; have HO326 := n0_; have HB := n1_; clear n0_ n1_; (try clear hb); (try clear hb2); (try clear hk); (try clear hi); (try clear ho0); obtain ⟨Ao11, co11, eo11⟩ := Kd.R_slice HO326.out; subst eo11) | ((with_reducible refine gate_dst (N := 4) rfl ?_); refine box_event ?hg (N := 4) ?hd (cs := #[.slice none 0 0, .slice none 0 0]) (t := 28) ?hr ?_; (case hd => rfl); (case hg => rfl); (case hr => first | (go_simp; done) | (go_simp; rfl)); intro gb327 hg w12 hbox hb; have n0_ := Aside0.mk (Kd.R_below (by (with_reducible repeat (first | apply Kd.R_alloc | apply Kd.R_drewN | apply Kd.R_drew)); exact HO326.out) hb); have n1_ := Aside0.mk (below_step (by repeat (first | (with_reducible first | exact HB.out | apply below_alloc | apply pw_below_drewN | apply below_drew1) | exact HB.out)) hb); have n2_ := Aside0.mk (hbox); have n3_ := Aside0.mk ((by rw [hg]; exact (below_size (by repeat (first | (with_reducible first | exact HB.out | apply below_alloc | apply pw_below_drewN | apply below_drew1) | exact HB.out))) : w.heap.size ≤ gb327)); have n4_ := Aside0.mk ((by rw [hg]; exact (below_size (by repeat (first | (with_reducible first | exact HB.out | apply below_alloc | apply pw_below_drewN | apply below_drew1) | exact HB.out))) : w.heap.size ≤ gb327)); clear HO326; clear HB; have HO326 := n0_; have HB := n1_; have BK327 := n2_; have GW327 := n3_; have GE327 := n4_; clear n0_ n1_ n2_ n3_ n4_; clear hb hbox hg; have hcz13_0 : w12.cell? ⟨gb327, 0, none⟩ = some (.slice none 0 0) := (blk_cell BK327.out 0).trans rfl; have hcz13_1 : w12.cell? ⟨gb327, 1, none⟩ = some (.slice none 0 0) := (blk_cell BK327.out 1).trans rfl; have hfz13_0 := blk_frozen BK327.out 0; have hfz13_1 := blk_frozen BK327.out 1))
   have n0_ : Aside0 (Kd.R k52 52 ((w12.setCell ⟨gb327, 0, none⟩ (.slice Ao11 t324.length co11)).setCell ⟨gb327, 1, none⟩ (.slice none 0 0)) w.heap.size (fun _ => True) (.slice Ao11 t324.length co11) t324) := ⟨by (with_reducible repeat (first | apply Kd.R_alloc | apply Kd.R_drewN | apply Kd.R_drew)); exact Kd.R_mono (Kd.R_far (p := ⟨gb327, 1, none⟩) (Kd.R_far (p := ⟨gb327, 0, none⟩) (Kd.R_types HO326.out BK327.out (by decide)) (fun _ hk => hk.2) (.slice Ao11 t324.length co11)) (fun _ hk => hk.2) (.slice none 0 0)) (fun _ hk => trivial)⟩
   have n1_ : Aside0 (((w12.setCell ⟨gb327, 0, none⟩ (.slice Ao11 t324.length co11)).setCell ⟨gb327, 1, none⟩ (.slice none 0 0)).heap[gb327]? = some (.cells #[.slice Ao11 t324.length co11, .slice none 0 0] 28 (0, 0))) := ⟨by (with_reducible repeat (first | refine blk_drewN ?_ _ | refine blk_drew ?_ | refine blk_alloc ?_ _)); refine blk_put (cs := #[.slice Ao11 t324.length co11, .slice none 0 0]) ?_ 1 _ rfl; (with_reducible repeat (first | refine blk_drewN ?_ _ | refine blk_drew ?_ | refine blk_alloc ?_ _)); refine blk_put (cs := #[.slice none 0 0, .slice none 0 0]) ?_ 0 _ rfl; (with_reducible repeat (first | refine blk_drewN ?_ _ | refine blk_drew ?_ | refine blk_alloc ?_ _)); exact BK327.out⟩
   have n2_ : Aside0 (Below w.heap.size w ((w12.setCell ⟨gb327, 0, none⟩ (.slice Ao11 t324.length co11)).setCell ⟨gb327, 1, none⟩ (.slice none 0 0))) := ⟨by repeat (first | (with_reducible first | exact HB.out | apply below_alloc | apply pw_below_drewN | apply below_drew1 | refine below_set ?_ GE327.out) | exact HB.out)⟩
   (try clear HO326)
   (try clear BK327)
   (try clear HB)
   generalize ((w12.setCell ⟨gb327, 0, none⟩ (.slice Ao11 t324.length co11)).setCell ⟨gb327, 1, none⟩ (.slice none 0 0)) = w14 at n0_ n1_ n2_ ⊢
   have HO326 := n0_
   have BK327 := n1_
   have HB := n2_
   clear n0_ n1_ n2_
   have n0_ := Aside0.mk (Kd.R_drew HO326.out)
   have n1_ := Aside0.mk (blk_drew BK327.out)
   have n2_ := Aside0.mk (below_drew1 HB.out)
   clear HO326
   clear BK327
   clear HB
   have HO326 := n0_
   have BK327 := n1_
   have HB := n2_
   clear n0_ n1_ n2_
   refine start_ (n := 5) (S := fun w' => w'.cell? ⟨gb327, 0, none⟩ = some (.slice Ao11 t324.length co11) ∧ w'.cell? ⟨gb327, 1, none⟩ = some (.slice none 0 0)) (ds := []) #[false, false, false, false, false] (by kernel_rfl) rfl rfl ⟨(blk_cell BK327.out 0).trans rfl, (blk_cell BK327.out 1).trans rfl⟩ (fun hHeld => ?_)
   generalize w14.drew = w15 at HO326 BK327 HB hHeld ⊢
   refine pure_ (i := 1) (N := some 14) (v := ?_) (a' := ?_) #[false, true, false, false, false] rfl rfl (by kernel_rfl) (fun _ _ _ h => h) (Or.inl ⟨by rfl, ?_⟩) ?_ ?_
   rotate_left
   ·intro w'
    go_simp
    with_reducible rfl
   rotate_left
   ·simp only [Act.put, List.setIfInBounds_toArray, List.set_cons_zero, List.set_cons_succ, i64_w, i32_w]
    rfl
   refine take_ (i := 0) (N := some 13) (v := ?_) (a' := ?_) #[true, true, false, false, false] rfl rfl (by kernel_rfl) (fun _ _ _ h => h) (Or.inl ⟨by rfl, ?_⟩) hHeld ?_ ?_
   rotate_left
   ·rintro w' ⟨s0, s1⟩
    go_simp
    with_reducible rfl
   rotate_left
   ·simp only [Act.put, List.setIfInBounds_toArray, List.set_cons_zero, List.set_cons_succ, i64_w, i32_w]
    rfl
   refine one_ (i := 2) (N := some 15) #[true, true, true, false, false] rfl rfl (by kernel_rfl) (by decide) (fun K hK => ?_)
   refine goes_ Try.func10 (by kernel_rfl) rfl #[.slice A0 l0.length c0] (by rfl) rfl rfl (by (try simp only [List.map_toArray, List.map_cons, List.map_nil]); first | done | rfl | (simp only [List.length_drop, List.length_take]; rfl)) ?_
   with_reducible refine (conciergelaw20_Cut.calls k _ _ l0 t328 _ ?side1 ?side2 A5.out).mono ?_
   (case side1 => repeat (first | exact (Kd.C_below HR0.out HB.out) | (with_reducible refine Kd.C_alloc ?_ _) | (with_reducible refine Kd.C_drewN ?_ _) | (with_reducible refine Kd.C_drew ?_)))
   (case side2 => exact HC0.out)
   rintro e w16 ⟨v329, rfl, ho0, hb⟩
   refine ⟨_, rfl, ?_⟩
   have n0_ := Aside0.mk (Kd.R_below (by (with_reducible repeat (first | apply Kd.R_alloc | apply Kd.R_drewN | apply Kd.R_drew)); exact HO326.out) hb)
   have n1_ := Aside0.mk (Kd.R_lower ho0 (below_size (by repeat (first | (with_reducible first | exact HB.out | apply below_alloc | apply pw_below_drewN | apply below_drew1 | refine below_set ?_ GE327.out) | exact HB.out))))
   have n2_ := Aside0.mk (blk_below (g := gb327) (o := .cells #[.slice Ao11 t324.length co11, .slice none 0 0] 28 (0, 0)) (by (with_reducible repeat (first | refine blk_drewN ?_ _ | refine blk_drew ?_ | refine blk_alloc ?_ _)); exact BK327.out) hb)
   have n3_ := Aside0.mk (below_step (by repeat (first | (with_reducible first | exact HB.out | apply below_alloc | apply pw_below_drewN | apply below_drew1 | refine below_set ?_ GE327.out) | exact HB.out)) hb)
   clear HO326
   clear BK327
   clear HB
   have HO326 := n0_
   have HO330 := n1_
   have BK327 := n2_
   have HB := n3_
   clear n0_ n1_ n2_ n3_
   (try clear hb)
   (try clear hb2)
   (try clear hk)
   (try clear hi)
   (try clear ho0)
   obtain ⟨Ao17, co17, eo17⟩ := Kd.R_slice HO330.out
   (first | subst eo17 | (injection eo17 with f1_ f2_ f3_; have f4_ := f1_.symm; have f5_ := f3_.symm; clear f1_ f2_ f3_; subst f4_; subst f5_))
   refine hK.out _ _ ⟨(blk_cell BK327.out 0).trans rfl, (blk_cell BK327.out 1).trans rfl⟩ (fun hHeld => ?_)
   clear hK K
   refine norm_ (a' := ?_) ?_ ?_
   rotate_left
   ·show Act.put _ (some 15) _ = _
    simp only [Act.put, List.setIfInBounds_toArray, List.set_cons_zero, List.set_cons_succ, i64_w, i32_w]
    rfl
   refine one_ (i := 3) (N := some 16) #[true, true, true, true, false] rfl rfl (by kernel_rfl) (by decide) (fun K hK => ?_)
   refine goes_ Try.func11 (by kernel_rfl) rfl #[.agg #[.slice Ao11 t324.length co11, .slice none 0 0], .slice Ao17 t328.length co17] (by rfl) rfl rfl (by (try simp only [List.map_toArray, List.map_cons, List.map_nil]); first | done | rfl | (simp only [List.length_drop, List.length_take]; rfl)) ?_
   refine (order_Sort.calls k _ _ t324 _ _ ([] : List ByteArray) _ _ t328 t331 _ ?side1 ?side2 ?side3 ?side4 ?side5 ?side6 A6.out).mono ?_
   (case side1 => repeat (first | exact (Kd.R_reads' HO326.out).2.2 | (with_reducible refine Kd.C_alloc ?_ _) | (with_reducible refine Kd.C_drewN ?_ _) | (with_reducible refine Kd.C_drew ?_)))
   (case side2 => exact (Kd.R_reads' HO326.out).2.1)
   (case side3 => exact Kd.C_nil _ _)
   (case side4 => exact Nat.le_refl _)
   (case side5 => repeat (first | exact (Kd.R_reads' HO330.out).2.2 | (with_reducible refine Kd.C_alloc ?_ _) | (with_reducible refine Kd.C_drewN ?_ _) | (with_reducible refine Kd.C_drew ?_)))
   (case side6 => exact (Kd.R_reads' HO330.out).2.1)
   rintro e w18 ⟨v332, rfl, ho0, hb⟩
   refine ⟨_, rfl, ?_⟩
   have n0_ := Aside0.mk (Kd.R_below (by (with_reducible repeat (first | apply Kd.R_alloc | apply Kd.R_drewN | apply Kd.R_drew)); exact HO326.out) hb)
   have n1_ := Aside0.mk (Kd.R_elder' (by (with_reducible repeat (first | apply Kd.R_alloc | apply Kd.R_drewN | apply Kd.R_drew)); exact HO330.out) (Kd.R_base ho0) hb)
   have n2_ := Aside0.mk (Kd.R_lower (Kd.R_new' ho0 (Kd.R_lt (by (with_reducible repeat (first | apply Kd.R_alloc | apply Kd.R_drewN | apply Kd.R_drew)); exact HO330.out))) (below_size (by repeat (first | (with_reducible first | exact HB.out | apply below_alloc | apply pw_below_drewN | apply below_drew1 | refine below_set ?_ GE327.out) | exact HB.out))))
   have n3_ := Aside0.mk (blk_below (g := gb327) (o := .cells #[.slice Ao11 t324.length co11, .slice none 0 0] 28 (0, 0)) (by (with_reducible repeat (first | refine blk_drewN ?_ _ | refine blk_drew ?_ | refine blk_alloc ?_ _)); exact BK327.out) hb)
   have n4_ := Aside0.mk (below_step (by repeat (first | (with_reducible first | exact HB.out | apply below_alloc | apply pw_below_drewN | apply below_drew1 | refine below_set ?_ GE327.out) | exact HB.out)) hb)
   clear HO326
   clear HO330
   clear BK327
   clear HB
   have HO326 := n0_
   have HO330 := n1_
   have HO333 := n2_
   have BK327 := n3_
   have HB := n4_
   clear n0_ n1_ n2_ n3_ n4_
   (try clear hb)
   (try clear hb2)
   (try clear hk)
   (try clear hi)
   (try clear ho0)
   refine hK.out _ _ ⟨(blk_cell BK327.out 0).trans rfl, (blk_cell BK327.out 1).trans rfl⟩ (fun hHeld => ?_)
   clear hK K
   refine norm_ (a' := ?_) ?_ ?_
   rotate_left
   ·show Act.put _ (some 16) _ = _
    simp only [Act.put, List.setIfInBounds_toArray, List.set_cons_zero, List.set_cons_succ, i64_w, i32_w]
    rfl
   refine pure_ (i := 4) (N := some 5) (v := ?_) (a' := ?_) #[true, true, true, true, true] rfl rfl (by kernel_rfl) (fun _ _ _ h => h) (Or.inl ⟨by rfl, ?_⟩) ?_ ?_
   rotate_left
   ·intro w'
    go_simp
    with_reducible rfl
   rotate_left
   ·simp only [Act.put, List.setIfInBounds_toArray, List.set_cons_zero, List.set_cons_succ, i64_w, i32_w]
    rfl
   refine done_ (by kernel_rfl) ?_
   have hcz19_0 : w18.cell? ⟨gb327, 0, none⟩ = some (.slice Ao11 t324.length co11) := (blk_cell BK327.out 0).trans rfl
   have hcz19_1 : w18.cell? ⟨gb327, 1, none⟩ = some (.slice none 0 0) := (blk_cell BK327.out 1).trans rfl
   have hfz19_0 := blk_frozen BK327.out 0
   have hfz19_1 := blk_frozen BK327.out 1
   obtain ⟨Ao20, co20, eo20⟩ := Kd.R_slice HO333.out
   subst eo20
   try go_wp2_with (first | ((with_reducible refine gate_callee (f := 11) rfl ?_); refine goesL_ (some 19) rfl rfl Try.func11 (by kernel_rfl) rfl #[.agg #[.slice Ao11 t324.length co11, .slice none 0 0], .slice Ao20 t331.length co20] rfl (by (try simp only [List.map_toArray, List.map_cons, List.map_nil]); first | done | rfl | (simp only [List.length_drop, List.length_take]; rfl)) ?_; (refine (order_Sort.calls k _ _ t324 _ _ ([] : List ByteArray) _ _ t331 t334 _ ?side1 ?side2 ?side3 ?side4 ?side5 ?side6 A7.out).mono ?_); (case side1 => repeat (first | exact (Kd.R_reads' HO326.out).2.2 | (with_reducible refine Kd.C_alloc ?_ _) | (with_reducible refine Kd.C_drewN ?_ _) | (with_reducible refine Kd.C_drew ?_))); (case side2 => exact (Kd.R_reads' HO326.out).2.1); (case side3 => exact Kd.C_nil _ _); (case side4 => exact Nat.le_refl _); (case side5 => repeat (first | exact (Kd.R_reads' HO333.out).2.2 | (with_reducible refine Kd.C_alloc ?_ _) | (with_reducible refine Kd.C_drewN ?_ _) | (with_reducible refine Kd.C_drew ?_))); (case side6 => exact (Kd.R_reads' HO333.out).2.1); rintro e w21 ⟨v335, rfl, ho0, hb⟩; refine ⟨_, rfl, ?_⟩; have n0_ := Aside0.mk (Kd.R_below (by (with_reducible repeat (first | apply Kd.R_alloc | apply Kd.R_drewN | apply Kd.R_drew)); exact HO326.out) hb); have n1_ := Aside0.mk (Kd.R_elder' (by (with_reducible repeat (first | apply Kd.R_alloc | apply Kd.R_drewN | apply Kd.R_drew)); exact HO330.out) (Kd.R_base ho0) hb); have n2_ := Aside0.mk (Kd.R_elder' (by (with_reducible repeat (first | apply Kd.R_alloc | apply Kd.R_drewN | apply Kd.R_drew)); exact HO333.out) (Kd.R_base ho0) hb); have n3_ := Aside0.mk (Kd.R_lower (Kd.R_new' (Kd.R_new' ho0 (Kd.R_lt (by (with_reducible repeat (first | apply Kd.R_alloc | apply Kd.R_drewN | apply Kd.R_drew)); exact HO330.out))) (Kd.R_lt (by (with_reducible repeat (first | apply Kd.R_alloc | apply Kd.R_drewN | apply Kd.R_drew)); exact HO333.out))) (below_size (by repeat (first | (with_reducible first | exact HB.out | apply below_alloc | apply pw_below_drewN | apply below_drew1 | refine below_set ?_ GE327.out) | exact HB.out)))); have n4_ := Aside0.mk (blk_below (g := gb327) (o := .cells #[.slice Ao11 t324.length co11, .slice none 0 0] 28 (0, 0)) (by (with_reducible repeat (first | refine blk_drewN ?_ _ | refine blk_drew ?_ | refine blk_alloc ?_ _)); exact BK327.out) hb); have n5_ := Aside0.mk (below_step (by repeat (first | (with_reducible first | exact HB.out | apply below_alloc | apply pw_below_drewN | apply below_drew1 | refine below_set ?_ GE327.out) | exact HB.out)) hb); clear HO326; clear HO330; clear HO333; clear BK327; clear HB; have HO326 := n0_; have HO330 := n1_; have HO333 := n2_; have HO336 := n3_; have BK327 := n4_; have HB := n5_; clear n0_ n1_ n2_ n3_ n4_ n5_; (try clear hb); (try clear hb2); (try clear hk); (try clear hi); (try clear ho0); obtain ⟨Ao22, co22, eo22⟩ := Kd.R_slice HO336.out; subst eo22))
   go_loopg [7] k (fun kq v7 w' => ∃ (x7_1 : Int), v7 = .int .i64 x7_1 ∧ Aside0 (conciergelaw20_OrderTwice.l0 kq true t331 t334 x7_1 = some r) ∧ Aside0 (kq ≤ k) ∧ Aside0 (Kd.R k34 34 w' w.heap.size (fun k_ => some k_ ≠ ((.slice Ao22 t334.length co22) : Value).ownBlock) (.slice Ao20 t331.length co20) t331) ∧ Aside0 (Kd.R k34 34 w' w.heap.size (fun k_ => some k_ ≠ ((.slice Ao20 t331.length co20) : Value).ownBlock) (.slice Ao22 t334.length co22) t334) ∧ Aside0 (Kd.R k52 52 w' w.heap.size (fun _ => True) (.slice Ao11 t324.length co11) t324) ∧ Aside0 (w'.heap[gb327]? = some (.cells #[(.slice Ao11 t324.length co11), (.slice none 0 0)] 28 (0, 0))) ∧ Aside0 (Below w.heap.size w w'))
   case atStart => exact ⟨(0), (by first | rfl | (simp; done) | (simp [*]; done)), H', ⟨Nat.le_refl _⟩, ⟨by (with_reducible repeat (first | apply Kd.R_alloc | apply Kd.R_drewN | apply Kd.R_drew)); exact Kd.R_mono HO333.out (fun _ hk => hk.2)⟩, ⟨by (with_reducible repeat (first | apply Kd.R_alloc | apply Kd.R_drewN | apply Kd.R_drew)); exact Kd.R_mono HO336.out (fun _ hk => hk.2)⟩, ⟨by (with_reducible repeat (first | apply Kd.R_alloc | apply Kd.R_drewN | apply Kd.R_drew)); exact HO326.out⟩, ⟨by (with_reducible repeat (first | refine blk_drewN ?_ _ | refine blk_drew ?_ | refine blk_alloc ?_ _)); exact BK327.out⟩, ⟨by repeat (first | (with_reducible first | exact HB.out | apply below_alloc | apply pw_below_drewN | apply below_drew1 | refine below_set ?_ GE327.out) | exact HB.out)⟩⟩
   case round =>
    clear H'
    try clear c1
    try clear p2
    try clear c3
    try clear c5
    try clear c7
    try clear c8
    try clear c8b0
    try clear c8b1
    try clear c8b2
    try clear c10
    try clear c11
    try clear c19
    try clear hcz13_0
    try clear hcz13_1
    try clear hcz19_0
    try clear hcz19_1
    try clear hfz13_0
    try clear hfz13_1
    try clear hfz19_0
    try clear hfz19_1
    obtain ⟨x7_1, rfl, HA, HK1, HO_5, HO_6, HO_328000, BK327, HB⟩ := hrel
    cases gk with
    | zero => exact absurd HA.out (by simp [conciergelaw20_OrderTwice.l0])
    | succ k1 =>
     have H := HA.out
     clear HA
     simp only [conciergelaw20_OrderTwice.l0] at H
     by_cases c23 : x7_1 < (t331.length : Int)
     ·rw [if_pos c23] at H
      have c23b0 : decide (x7_1 < (t331.length : Int)) = true := decide_eq_true c23
      clear c23
      by_cases c24 : 0 ≤ x7_1
      ·rw [if_pos c24] at H
       have c24b0 : decide (0 ≤ x7_1) = true := decide_eq_true c24
       clear c24
       by_cases c25 : x7_1 < (t334.length : Int)
       ·rw [if_pos c25] at H
        have c25b0 : decide (x7_1 < (t334.length : Int)) = true := decide_eq_true c25
        clear c25
        by_cases c26 : ((rd_T34 t331 x7_1).f0).toList = ((rd_T34 t334 x7_1).f0).toList
        ·rw [if_pos c26] at H
         have c26b0 : (((rd_T34 t331 x7_1).f0).toList == ((rd_T34 t334 x7_1).f0).toList) = true := beq_iff_eq.mpr c26
         have c26b1 : (((rd_T34 t331 x7_1).f0).toList != ((rd_T34 t334 x7_1).f0).toList) = false := bne_eq_false_iff_eq.mpr c26
         clear c26
         by_cases c27 : ((rd_T34 t331 x7_1).f1).toList = ((rd_T34 t334 x7_1).f1).toList
         ·rw [if_pos c27] at H
          have c27b0 : (((rd_T34 t331 x7_1).f1).toList == ((rd_T34 t334 x7_1).f1).toList) = true := beq_iff_eq.mpr c27
          have c27b1 : (((rd_T34 t331 x7_1).f1).toList != ((rd_T34 t334 x7_1).f1).toList) = false := bne_eq_false_iff_eq.mpr c27
          clear c27
          have H' := Aside0.mk H
          clear H
          try go_wp2
          have n0_ := Aside0.mk (Kd.R_drew HO_5.out)
          have n1_ := Aside0.mk (Kd.R_drew HO_6.out)
          have n2_ := Aside0.mk (Kd.R_drew HO_328000.out)
          have n3_ := Aside0.mk (blk_drew BK327.out)
          have n4_ := Aside0.mk (below_drew1 HB.out)
          clear HO_5
          clear HO_6
          clear HO_328000
          clear BK327
          clear HB
          have HO_5 := n0_
          have HO_6 := n1_
          have HO_328000 := n2_
          have BK327 := n3_
          have HB := n4_
          clear n0_ n1_ n2_ n3_ n4_
          have p337 : 0 ≤ (x7_1 : Int) := of_decide_eq_true (by first | (with_reducible assumption) | assumption)
          have q337 : x7_1 < (t331.length : Int) := of_decide_eq_true (by first | (with_reducible assumption) | assumption)
          obtain ⟨ad337, e337, hx337_0, hx337_1⟩ := at_T34 (Kd.R_reads' HO_5.out).2.2 x7_1 p337 q337
          cases e337
          replace p337 := eq_true p337
          replace q337 := eq_true q337
          have p338 : 0 ≤ (x7_1 : Int) := of_decide_eq_true (by first | (with_reducible assumption) | assumption)
          have q338 : x7_1 < (t334.length : Int) := of_decide_eq_true (by first | (with_reducible assumption) | assumption)
          obtain ⟨ad338, e338, hx338_0, hx338_1⟩ := at_T34 (Kd.R_reads' HO_6.out).2.2 x7_1 p338 q338
          cases e338
          replace p338 := eq_true p338
          replace q338 := eq_true q338
          have p339 : 0 ≤ (x7_1 : Int) := of_decide_eq_true (by first | (with_reducible assumption) | assumption)
          have q339 : x7_1 < (t331.length : Int) := of_decide_eq_true (by first | (with_reducible assumption) | assumption)
          obtain ⟨ad339, e339, hx339_0, hx339_1⟩ := at_T34 (Kd.R_reads' HO_5.out).2.2 x7_1 p339 q339
          obtain rfl : ad337 = ad339 := (by injection e339)
          replace p339 := eq_true p339
          replace q339 := eq_true q339
          have p340 : 0 ≤ (x7_1 : Int) := of_decide_eq_true (by first | (with_reducible assumption) | assumption)
          have q340 : x7_1 < (t334.length : Int) := of_decide_eq_true (by first | (with_reducible assumption) | assumption)
          obtain ⟨ad340, e340, hx340_0, hx340_1⟩ := at_T34 (Kd.R_reads' HO_6.out).2.2 x7_1 p340 q340
          obtain rfl : ad338 = ad340 := (by injection e340)
          replace p340 := eq_true p340
          replace q340 := eq_true q340
          refine start_ (n := 24) (S := fun w' => w'.cell? (ad337.add ((x7_1).toNat * 2)) = some (.string ((rd_T34 t331 x7_1).f0)) ∧ w'.cell? ⟨(ad337.add ((x7_1).toNat * 2)).block, (ad337.add ((x7_1).toNat * 2)).off + 1, none⟩ = some (.string ((rd_T34 t331 x7_1).f1)) ∧ w'.cell? (ad338.add ((x7_1).toNat * 2)) = some (.string ((rd_T34 t334 x7_1).f0)) ∧ w'.cell? ⟨(ad338.add ((x7_1).toNat * 2)).block, (ad338.add ((x7_1).toNat * 2)).off + 1, none⟩ = some (.string ((rd_T34 t334 x7_1).f1)) ∧ w'.cell? (ad337.add ((x7_1).toNat * 2)) = some (.string ((rd_T34 t331 x7_1).f0)) ∧ w'.cell? ⟨(ad337.add ((x7_1).toNat * 2)).block, (ad337.add ((x7_1).toNat * 2)).off + 1, none⟩ = some (.string ((rd_T34 t331 x7_1).f1)) ∧ w'.cell? (ad338.add ((x7_1).toNat * 2)) = some (.string ((rd_T34 t334 x7_1).f0)) ∧ w'.cell? ⟨(ad338.add ((x7_1).toNat * 2)).block, (ad338.add ((x7_1).toNat * 2)).off + 1, none⟩ = some (.string ((rd_T34 t334 x7_1).f1))) (ds := []) #[false, false, false, false, false, false, false, false, false, false, false, false, false, false, false, false, false, false, false, false, false, false, false, false] (by kernel_rfl) rfl rfl ⟨hx337_0, hx337_1, hx338_0, hx338_1, hx339_0, hx339_1, hx340_0, hx340_1⟩ (fun hHeld => ?_); refine with_tabW conciergelaw20_OrderTwice.tab12 conciergelaw20_OrderTwice.bits12 (fun HT_ HW_ => ?_)
          generalize wr.drew = w28 at HO_5 HO_6 HO_328000 BK327 HB hx337_0 hx337_1 hx338_0 hx338_1 hx339_0 hx339_1 hx340_0 hx340_1 hHeld ⊢
          refine pure_ (i := 0) (N := some 31) (v := ?_) (a' := ?_) #[true, false, false, false, false, false, false, false, false, false, false, false, false, false, false, false, false, false, false, false, false, false, false, false] rfl rfl (any_of HT_.out (by kernel_rfl)) (fun _ _ _ h => h) (Or.inl ⟨by rfl, ?_⟩) ?_ ?_
          rotate_left
          ·intro w'
           go_simp
           with_reducible rfl
          rotate_left
          ·simp only [Act.put, List.setIfInBounds_toArray, List.set_cons_zero, List.set_cons_succ, i64_w, i32_w]
           rfl
          refine pure_ (i := 1) (N := some 32) (v := ?_) (a' := ?_) #[true, true, false, false, false, false, false, false, false, false, false, false, false, false, false, false, false, false, false, false, false, false, false, false] rfl rfl (any_of HT_.out (by kernel_rfl)) (fun _ _ _ h => h) (Or.inl ⟨by rfl, ?_⟩) ?_ ?_
          rotate_left
          ·intro w'
           go_simp
           with_reducible rfl
          rotate_left
          ·simp only [Act.put, List.setIfInBounds_toArray, List.set_cons_zero, List.set_cons_succ, i64_w, i32_w]
           rfl
          refine pure_ (i := 2) (N := some 33) (v := ?_) (a' := ?_) #[true, true, true, false, false, false, false, false, false, false, false, false, false, false, false, false, false, false, false, false, false, false, false, false] rfl rfl (any_of HT_.out (by kernel_rfl)) (fun _ _ _ h => h) (Or.inl ⟨by rfl, ?_⟩) ?_ ?_
          rotate_left
          ·intro w'
           go_simp
           with_reducible rfl
          rotate_left
          ·simp only [Act.put, List.setIfInBounds_toArray, List.set_cons_zero, List.set_cons_succ, i64_w, i32_w]
           rfl
          refine pure_ (i := 3) (N := some 34) (v := ?_) (a' := ?_) #[true, true, true, true, false, false, false, false, false, false, false, false, false, false, false, false, false, false, false, false, false, false, false, false] rfl rfl (any_of HT_.out (by kernel_rfl)) (fun _ _ _ h => h) (Or.inl ⟨by rfl, ?_⟩) ?_ ?_
          rotate_left
          ·intro w'
           go_simp
           with_reducible rfl
          rotate_left
          ·simp only [Act.put, List.setIfInBounds_toArray, List.set_cons_zero, List.set_cons_succ, i64_w, i32_w]
           rfl
          refine pure_ (i := 5) (N := some 36) (v := ?_) (a' := ?_) #[true, true, true, true, false, true, false, false, false, false, false, false, false, false, false, false, false, false, false, false, false, false, false, false] rfl rfl (any_of HT_.out (by kernel_rfl)) (fun _ _ _ h => h) (Or.inl ⟨by rfl, ?_⟩) ?_ ?_
          rotate_left
          ·intro w'
           go_simp
           with_reducible rfl
          rotate_left
          ·simp only [Act.put, List.setIfInBounds_toArray, List.set_cons_zero, List.set_cons_succ, i64_w, i32_w]
           rfl
          refine pure_ (i := 6) (N := some 37) (v := ?_) (a' := ?_) #[true, true, true, true, false, true, true, false, false, false, false, false, false, false, false, false, false, false, false, false, false, false, false, false] rfl rfl (any_of HT_.out (by kernel_rfl)) (fun _ _ _ h => h) (Or.inl ⟨by rfl, ?_⟩) ?_ ?_
          rotate_left
          ·intro w'
           go_simp
           with_reducible rfl
          rotate_left
          ·simp only [Act.put, List.setIfInBounds_toArray, List.set_cons_zero, List.set_cons_succ, i64_w, i32_w]
           rfl
          refine pure_ (i := 7) (N := some 38) (v := ?_) (a' := ?_) #[true, true, true, true, false, true, true, true, false, false, false, false, false, false, false, false, false, false, false, false, false, false, false, false] rfl rfl (any_of HT_.out (by kernel_rfl)) (fun _ _ _ h => h) (Or.inl ⟨by rfl, ?_⟩) ?_ ?_
          rotate_left
          ·intro w'
           go_simp
           with_reducible rfl
          rotate_left
          ·simp only [Act.put, List.setIfInBounds_toArray, List.set_cons_zero, List.set_cons_succ, i64_w, i32_w]
           rfl
          refine pure_ (i := 8) (N := some 39) (v := ?_) (a' := ?_) #[true, true, true, true, false, true, true, true, true, false, false, false, false, false, false, false, false, false, false, false, false, false, false, false] rfl rfl (any_of HT_.out (by kernel_rfl)) (fun _ _ _ h => h) (Or.inl ⟨by rfl, ?_⟩) ?_ ?_
          rotate_left
          ·intro w'
           go_simp
           with_reducible rfl
          rotate_left
          ·simp only [Act.put, List.setIfInBounds_toArray, List.set_cons_zero, List.set_cons_succ, i64_w, i32_w]
           rfl
          refine take_ (i := 4) (N := some 35) (v := ?_) (a' := ?_) #[true, true, true, true, true, true, true, true, true, false, false, false, false, false, false, false, false, false, false, false, false, false, false, false] rfl rfl (take_ofW HT_.out HW_.out (by kernel_rfl)) (fun _ _ _ h => h) (Or.inl ⟨by rfl, ?_⟩) hHeld ?_ ?_
          rotate_left
          ·rintro w' ⟨s0, s1, s2, s3, s4, s5, s6, s7⟩
           go_simp
           with_reducible rfl
          rotate_left
          ·simp only [Act.put, List.setIfInBounds_toArray, List.set_cons_zero, List.set_cons_succ, i64_w, i32_w]
           rfl
          refine take_ (i := 9) (N := some 40) (v := ?_) (a' := ?_) #[true, true, true, true, true, true, true, true, true, true, false, false, false, false, false, false, false, false, false, false, false, false, false, false] rfl rfl (take_ofW HT_.out HW_.out (by kernel_rfl)) (fun _ _ _ h => h) (Or.inl ⟨by rfl, ?_⟩) hHeld ?_ ?_
          rotate_left
          ·rintro w' ⟨s0, s1, s2, s3, s4, s5, s6, s7⟩
           go_simp
           with_reducible rfl
          rotate_left
          ·simp only [Act.put, List.setIfInBounds_toArray, List.set_cons_zero, List.set_cons_succ, i64_w, i32_w]
           rfl
          refine pure_ (i := 10) (N := some 41) (v := ?_) (a' := ?_) #[true, true, true, true, true, true, true, true, true, true, true, false, false, false, false, false, false, false, false, false, false, false, false, false] rfl rfl (any_of HT_.out (by kernel_rfl)) (fun _ _ _ h => h) (Or.inl ⟨by rfl, ?_⟩) ?_ ?_
          rotate_left
          ·intro w'
           go_simp
           with_reducible rfl
          rotate_left
          ·simp only [Act.put, List.setIfInBounds_toArray, List.set_cons_zero, List.set_cons_succ, i64_w, i32_w]
           rfl
          refine pure_ (i := 11) (N := some 42) (v := ?_) (a' := ?_) #[true, true, true, true, true, true, true, true, true, true, true, true, false, false, false, false, false, false, false, false, false, false, false, false] rfl rfl (any_of HT_.out (by kernel_rfl)) (fun _ _ _ h => h) (Or.inl ⟨by rfl, ?_⟩) ?_ ?_
          rotate_left
          ·intro w'
           go_simp
           with_reducible rfl
          rotate_left
          ·simp only [Act.put, List.setIfInBounds_toArray, List.set_cons_zero, List.set_cons_succ, i64_w, i32_w]
           rfl
          refine pure_ (i := 12) (N := some 43) (v := ?_) (a' := ?_) #[true, true, true, true, true, true, true, true, true, true, true, true, true, false, false, false, false, false, false, false, false, false, false, false] rfl rfl (any_of HT_.out (by kernel_rfl)) (fun _ _ _ h => h) (Or.inl ⟨by rfl, ?_⟩) ?_ ?_
          rotate_left
          ·intro w'
           go_simp
           with_reducible rfl
          rotate_left
          ·simp only [Act.put, List.setIfInBounds_toArray, List.set_cons_zero, List.set_cons_succ, i64_w, i32_w]
           rfl
          refine pure_ (i := 13) (N := some 44) (v := ?_) (a' := ?_) #[true, true, true, true, true, true, true, true, true, true, true, true, true, true, false, false, false, false, false, false, false, false, false, false] rfl rfl (any_of HT_.out (by kernel_rfl)) (fun _ _ _ h => h) (Or.inl ⟨by rfl, ?_⟩) ?_ ?_
          rotate_left
          ·intro w'
           go_simp
           with_reducible rfl
          rotate_left
          ·simp only [Act.put, List.setIfInBounds_toArray, List.set_cons_zero, List.set_cons_succ, i64_w, i32_w]
           rfl
          refine pure_ (i := 14) (N := some 45) (v := ?_) (a' := ?_) #[true, true, true, true, true, true, true, true, true, true, true, true, true, true, true, false, false, false, false, false, false, false, false, false] rfl rfl (any_of HT_.out (by kernel_rfl)) (fun _ _ _ h => h) (Or.inl ⟨by rfl, ?_⟩) ?_ ?_
          rotate_left
          ·intro w'
           go_simp
           with_reducible rfl
          rotate_left
          ·simp only [Act.put, List.setIfInBounds_toArray, List.set_cons_zero, List.set_cons_succ, i64_w, i32_w]
           rfl
          refine pure_ (i := 15) (N := some 46) (v := ?_) (a' := ?_) #[true, true, true, true, true, true, true, true, true, true, true, true, true, true, true, true, false, false, false, false, false, false, false, false] rfl rfl (any_of HT_.out (by kernel_rfl)) (fun _ _ _ h => h) (Or.inl ⟨by rfl, ?_⟩) ?_ ?_
          rotate_left
          ·intro w'
           go_simp
           with_reducible rfl
          rotate_left
          ·simp only [Act.put, List.setIfInBounds_toArray, List.set_cons_zero, List.set_cons_succ, i64_w, i32_w]
           rfl
          refine pure_ (i := 17) (N := some 48) (v := ?_) (a' := ?_) #[true, true, true, true, true, true, true, true, true, true, true, true, true, true, true, true, false, true, false, false, false, false, false, false] rfl rfl (any_of HT_.out (by kernel_rfl)) (fun _ _ _ h => h) (Or.inl ⟨by rfl, ?_⟩) ?_ ?_
          rotate_left
          ·intro w'
           go_simp
           with_reducible rfl
          rotate_left
          ·simp only [Act.put, List.setIfInBounds_toArray, List.set_cons_zero, List.set_cons_succ, i64_w, i32_w]
           rfl
          refine pure_ (i := 18) (N := some 49) (v := ?_) (a' := ?_) #[true, true, true, true, true, true, true, true, true, true, true, true, true, true, true, true, false, true, true, false, false, false, false, false] rfl rfl (any_of HT_.out (by kernel_rfl)) (fun _ _ _ h => h) (Or.inl ⟨by rfl, ?_⟩) ?_ ?_
          rotate_left
          ·intro w'
           go_simp
           with_reducible rfl
          rotate_left
          ·simp only [Act.put, List.setIfInBounds_toArray, List.set_cons_zero, List.set_cons_succ, i64_w, i32_w]
           rfl
          refine pure_ (i := 19) (N := some 50) (v := ?_) (a' := ?_) #[true, true, true, true, true, true, true, true, true, true, true, true, true, true, true, true, false, true, true, true, false, false, false, false] rfl rfl (any_of HT_.out (by kernel_rfl)) (fun _ _ _ h => h) (Or.inl ⟨by rfl, ?_⟩) ?_ ?_
          rotate_left
          ·intro w'
           go_simp
           with_reducible rfl
          rotate_left
          ·simp only [Act.put, List.setIfInBounds_toArray, List.set_cons_zero, List.set_cons_succ, i64_w, i32_w]
           rfl
          refine pure_ (i := 20) (N := some 51) (v := ?_) (a' := ?_) #[true, true, true, true, true, true, true, true, true, true, true, true, true, true, true, true, false, true, true, true, true, false, false, false] rfl rfl (any_of HT_.out (by kernel_rfl)) (fun _ _ _ h => h) (Or.inl ⟨by rfl, ?_⟩) ?_ ?_
          rotate_left
          ·intro w'
           go_simp
           with_reducible rfl
          rotate_left
          ·simp only [Act.put, List.setIfInBounds_toArray, List.set_cons_zero, List.set_cons_succ, i64_w, i32_w]
           rfl
          refine take_ (i := 16) (N := some 47) (v := ?_) (a' := ?_) #[true, true, true, true, true, true, true, true, true, true, true, true, true, true, true, true, true, true, true, true, true, false, false, false] rfl rfl (take_ofW HT_.out HW_.out (by kernel_rfl)) (fun _ _ _ h => h) (Or.inl ⟨by rfl, ?_⟩) hHeld ?_ ?_
          rotate_left
          ·rintro w' ⟨s0, s1, s2, s3, s4, s5, s6, s7⟩
           go_simp
           with_reducible rfl
          rotate_left
          ·simp only [Act.put, List.setIfInBounds_toArray, List.set_cons_zero, List.set_cons_succ, i64_w, i32_w]
           rfl
          refine take_ (i := 21) (N := some 52) (v := ?_) (a' := ?_) #[true, true, true, true, true, true, true, true, true, true, true, true, true, true, true, true, true, true, true, true, true, true, false, false] rfl rfl (take_ofW HT_.out HW_.out (by kernel_rfl)) (fun _ _ _ h => h) (Or.inl ⟨by rfl, ?_⟩) hHeld ?_ ?_
          rotate_left
          ·rintro w' ⟨s0, s1, s2, s3, s4, s5, s6, s7⟩
           go_simp
           with_reducible rfl
          rotate_left
          ·simp only [Act.put, List.setIfInBounds_toArray, List.set_cons_zero, List.set_cons_succ, i64_w, i32_w]
           rfl
          refine pure_ (i := 22) (N := some 53) (v := ?_) (a' := ?_) #[true, true, true, true, true, true, true, true, true, true, true, true, true, true, true, true, true, true, true, true, true, true, true, false] rfl rfl (any_of HT_.out (by kernel_rfl)) (fun _ _ _ h => h) (Or.inl ⟨by rfl, ?_⟩) ?_ ?_
          rotate_left
          ·intro w'
           go_simp
           with_reducible rfl
          rotate_left
          ·simp only [Act.put, List.setIfInBounds_toArray, List.set_cons_zero, List.set_cons_succ, i64_w, i32_w]
           rfl
          refine pure_ (i := 23) (N := some 54) (v := ?_) (a' := ?_) #[true, true, true, true, true, true, true, true, true, true, true, true, true, true, true, true, true, true, true, true, true, true, true, true] rfl rfl (any_of HT_.out (by kernel_rfl)) (fun _ _ _ h => h) (Or.inl ⟨by rfl, ?_⟩) ?_ ?_
          rotate_left
          ·intro w'
           go_simp
           with_reducible rfl
          rotate_left
          ·simp only [Act.put, List.setIfInBounds_toArray, List.set_cons_zero, List.set_cons_succ, i64_w, i32_w]
           rfl
          refine done_ (done_of HT_.out (by kernel_rfl)) ?_
          try go_wp2
          go_roundg k1
          case measure => have := HK1.out; omega
          case rel => exact ⟨(wrap64 (x7_1 + 1)), (by first | rfl | (simp; done) | (simp [*]; done)), H', ⟨by have := HK1.out; omega⟩, ⟨by (with_reducible repeat (first | apply Kd.R_alloc | apply Kd.R_drewN | apply Kd.R_drew)); exact HO_5.out⟩, ⟨by (with_reducible repeat (first | apply Kd.R_alloc | apply Kd.R_drewN | apply Kd.R_drew)); exact HO_6.out⟩, ⟨by (with_reducible repeat (first | apply Kd.R_alloc | apply Kd.R_drewN | apply Kd.R_drew)); exact HO_328000.out⟩, ⟨by (with_reducible repeat (first | refine blk_drewN ?_ _ | refine blk_drew ?_ | refine blk_alloc ?_ _)); exact BK327.out⟩, ⟨by repeat (first | (with_reducible first | exact HB.out | apply below_alloc | apply pw_below_drewN | apply below_drew1 | refine below_set ?_ GE327.out) | exact HB.out)⟩⟩
         ·rw [if_neg c27] at H
          have c27b0 : (((rd_T34 t331 x7_1).f1).toList == ((rd_T34 t334 x7_1).f1).toList) = false := beq_eq_false_iff_ne.mpr c27
          have c27b1 : (((rd_T34 t331 x7_1).f1).toList != ((rd_T34 t334 x7_1).f1).toList) = true := bne_iff_ne.mpr c27
          obtain rfl := Option.some.inj H
          try go_wp2
          have n0_ := Aside0.mk (Kd.R_drew HO_5.out)
          have n1_ := Aside0.mk (Kd.R_drew HO_6.out)
          have n2_ := Aside0.mk (Kd.R_drew HO_328000.out)
          have n3_ := Aside0.mk (blk_drew BK327.out)
          have n4_ := Aside0.mk (below_drew1 HB.out)
          clear HO_5
          clear HO_6
          clear HO_328000
          clear BK327
          clear HB
          have HO_5 := n0_
          have HO_6 := n1_
          have HO_328000 := n2_
          have BK327 := n3_
          have HB := n4_
          clear n0_ n1_ n2_ n3_ n4_
          have p337 : 0 ≤ (x7_1 : Int) := of_decide_eq_true (by first | (with_reducible assumption) | assumption)
          have q337 : x7_1 < (t331.length : Int) := of_decide_eq_true (by first | (with_reducible assumption) | assumption)
          obtain ⟨ad337, e337, hx337_0, hx337_1⟩ := at_T34 (Kd.R_reads' HO_5.out).2.2 x7_1 p337 q337
          cases e337
          replace p337 := eq_true p337
          replace q337 := eq_true q337
          have p338 : 0 ≤ (x7_1 : Int) := of_decide_eq_true (by first | (with_reducible assumption) | assumption)
          have q338 : x7_1 < (t334.length : Int) := of_decide_eq_true (by first | (with_reducible assumption) | assumption)
          obtain ⟨ad338, e338, hx338_0, hx338_1⟩ := at_T34 (Kd.R_reads' HO_6.out).2.2 x7_1 p338 q338
          cases e338
          replace p338 := eq_true p338
          replace q338 := eq_true q338
          have p339 : 0 ≤ (x7_1 : Int) := of_decide_eq_true (by first | (with_reducible assumption) | assumption)
          have q339 : x7_1 < (t331.length : Int) := of_decide_eq_true (by first | (with_reducible assumption) | assumption)
          obtain ⟨ad339, e339, hx339_0, hx339_1⟩ := at_T34 (Kd.R_reads' HO_5.out).2.2 x7_1 p339 q339
          obtain rfl : ad337 = ad339 := (by injection e339)
          replace p339 := eq_true p339
          replace q339 := eq_true q339
          have p340 : 0 ≤ (x7_1 : Int) := of_decide_eq_true (by first | (with_reducible assumption) | assumption)
          have q340 : x7_1 < (t334.length : Int) := of_decide_eq_true (by first | (with_reducible assumption) | assumption)
          obtain ⟨ad340, e340, hx340_0, hx340_1⟩ := at_T34 (Kd.R_reads' HO_6.out).2.2 x7_1 p340 q340
          obtain rfl : ad338 = ad340 := (by injection e340)
          replace p340 := eq_true p340
          replace q340 := eq_true q340
          refine start_ (n := 24) (S := fun w' => w'.cell? (ad337.add ((x7_1).toNat * 2)) = some (.string ((rd_T34 t331 x7_1).f0)) ∧ w'.cell? ⟨(ad337.add ((x7_1).toNat * 2)).block, (ad337.add ((x7_1).toNat * 2)).off + 1, none⟩ = some (.string ((rd_T34 t331 x7_1).f1)) ∧ w'.cell? (ad338.add ((x7_1).toNat * 2)) = some (.string ((rd_T34 t334 x7_1).f0)) ∧ w'.cell? ⟨(ad338.add ((x7_1).toNat * 2)).block, (ad338.add ((x7_1).toNat * 2)).off + 1, none⟩ = some (.string ((rd_T34 t334 x7_1).f1)) ∧ w'.cell? (ad337.add ((x7_1).toNat * 2)) = some (.string ((rd_T34 t331 x7_1).f0)) ∧ w'.cell? ⟨(ad337.add ((x7_1).toNat * 2)).block, (ad337.add ((x7_1).toNat * 2)).off + 1, none⟩ = some (.string ((rd_T34 t331 x7_1).f1)) ∧ w'.cell? (ad338.add ((x7_1).toNat * 2)) = some (.string ((rd_T34 t334 x7_1).f0)) ∧ w'.cell? ⟨(ad338.add ((x7_1).toNat * 2)).block, (ad338.add ((x7_1).toNat * 2)).off + 1, none⟩ = some (.string ((rd_T34 t334 x7_1).f1))) (ds := []) #[false, false, false, false, false, false, false, false, false, false, false, false, false, false, false, false, false, false, false, false, false, false, false, false] (by kernel_rfl) rfl rfl ⟨hx337_0, hx337_1, hx338_0, hx338_1, hx339_0, hx339_1, hx340_0, hx340_1⟩ (fun hHeld => ?_); refine with_tabW conciergelaw20_OrderTwice.tab12 conciergelaw20_OrderTwice.bits12 (fun HT_ HW_ => ?_)
          generalize wr.drew = w29 at HO_5 HO_6 HO_328000 BK327 HB hx337_0 hx337_1 hx338_0 hx338_1 hx339_0 hx339_1 hx340_0 hx340_1 hHeld ⊢
          refine pure_ (i := 0) (N := some 31) (v := ?_) (a' := ?_) #[true, false, false, false, false, false, false, false, false, false, false, false, false, false, false, false, false, false, false, false, false, false, false, false] rfl rfl (any_of HT_.out (by kernel_rfl)) (fun _ _ _ h => h) (Or.inl ⟨by rfl, ?_⟩) ?_ ?_
          rotate_left
          ·intro w'
           go_simp
           with_reducible rfl
          rotate_left
          ·simp only [Act.put, List.setIfInBounds_toArray, List.set_cons_zero, List.set_cons_succ, i64_w, i32_w]
           rfl
          refine pure_ (i := 1) (N := some 32) (v := ?_) (a' := ?_) #[true, true, false, false, false, false, false, false, false, false, false, false, false, false, false, false, false, false, false, false, false, false, false, false] rfl rfl (any_of HT_.out (by kernel_rfl)) (fun _ _ _ h => h) (Or.inl ⟨by rfl, ?_⟩) ?_ ?_
          rotate_left
          ·intro w'
           go_simp
           with_reducible rfl
          rotate_left
          ·simp only [Act.put, List.setIfInBounds_toArray, List.set_cons_zero, List.set_cons_succ, i64_w, i32_w]
           rfl
          refine pure_ (i := 2) (N := some 33) (v := ?_) (a' := ?_) #[true, true, true, false, false, false, false, false, false, false, false, false, false, false, false, false, false, false, false, false, false, false, false, false] rfl rfl (any_of HT_.out (by kernel_rfl)) (fun _ _ _ h => h) (Or.inl ⟨by rfl, ?_⟩) ?_ ?_
          rotate_left
          ·intro w'
           go_simp
           with_reducible rfl
          rotate_left
          ·simp only [Act.put, List.setIfInBounds_toArray, List.set_cons_zero, List.set_cons_succ, i64_w, i32_w]
           rfl
          refine pure_ (i := 3) (N := some 34) (v := ?_) (a' := ?_) #[true, true, true, true, false, false, false, false, false, false, false, false, false, false, false, false, false, false, false, false, false, false, false, false] rfl rfl (any_of HT_.out (by kernel_rfl)) (fun _ _ _ h => h) (Or.inl ⟨by rfl, ?_⟩) ?_ ?_
          rotate_left
          ·intro w'
           go_simp
           with_reducible rfl
          rotate_left
          ·simp only [Act.put, List.setIfInBounds_toArray, List.set_cons_zero, List.set_cons_succ, i64_w, i32_w]
           rfl
          refine pure_ (i := 5) (N := some 36) (v := ?_) (a' := ?_) #[true, true, true, true, false, true, false, false, false, false, false, false, false, false, false, false, false, false, false, false, false, false, false, false] rfl rfl (any_of HT_.out (by kernel_rfl)) (fun _ _ _ h => h) (Or.inl ⟨by rfl, ?_⟩) ?_ ?_
          rotate_left
          ·intro w'
           go_simp
           with_reducible rfl
          rotate_left
          ·simp only [Act.put, List.setIfInBounds_toArray, List.set_cons_zero, List.set_cons_succ, i64_w, i32_w]
           rfl
          refine pure_ (i := 6) (N := some 37) (v := ?_) (a' := ?_) #[true, true, true, true, false, true, true, false, false, false, false, false, false, false, false, false, false, false, false, false, false, false, false, false] rfl rfl (any_of HT_.out (by kernel_rfl)) (fun _ _ _ h => h) (Or.inl ⟨by rfl, ?_⟩) ?_ ?_
          rotate_left
          ·intro w'
           go_simp
           with_reducible rfl
          rotate_left
          ·simp only [Act.put, List.setIfInBounds_toArray, List.set_cons_zero, List.set_cons_succ, i64_w, i32_w]
           rfl
          refine pure_ (i := 7) (N := some 38) (v := ?_) (a' := ?_) #[true, true, true, true, false, true, true, true, false, false, false, false, false, false, false, false, false, false, false, false, false, false, false, false] rfl rfl (any_of HT_.out (by kernel_rfl)) (fun _ _ _ h => h) (Or.inl ⟨by rfl, ?_⟩) ?_ ?_
          rotate_left
          ·intro w'
           go_simp
           with_reducible rfl
          rotate_left
          ·simp only [Act.put, List.setIfInBounds_toArray, List.set_cons_zero, List.set_cons_succ, i64_w, i32_w]
           rfl
          refine pure_ (i := 8) (N := some 39) (v := ?_) (a' := ?_) #[true, true, true, true, false, true, true, true, true, false, false, false, false, false, false, false, false, false, false, false, false, false, false, false] rfl rfl (any_of HT_.out (by kernel_rfl)) (fun _ _ _ h => h) (Or.inl ⟨by rfl, ?_⟩) ?_ ?_
          rotate_left
          ·intro w'
           go_simp
           with_reducible rfl
          rotate_left
          ·simp only [Act.put, List.setIfInBounds_toArray, List.set_cons_zero, List.set_cons_succ, i64_w, i32_w]
           rfl
          refine take_ (i := 4) (N := some 35) (v := ?_) (a' := ?_) #[true, true, true, true, true, true, true, true, true, false, false, false, false, false, false, false, false, false, false, false, false, false, false, false] rfl rfl (take_ofW HT_.out HW_.out (by kernel_rfl)) (fun _ _ _ h => h) (Or.inl ⟨by rfl, ?_⟩) hHeld ?_ ?_
          rotate_left
          ·rintro w' ⟨s0, s1, s2, s3, s4, s5, s6, s7⟩
           go_simp
           with_reducible rfl
          rotate_left
          ·simp only [Act.put, List.setIfInBounds_toArray, List.set_cons_zero, List.set_cons_succ, i64_w, i32_w]
           rfl
          refine take_ (i := 9) (N := some 40) (v := ?_) (a' := ?_) #[true, true, true, true, true, true, true, true, true, true, false, false, false, false, false, false, false, false, false, false, false, false, false, false] rfl rfl (take_ofW HT_.out HW_.out (by kernel_rfl)) (fun _ _ _ h => h) (Or.inl ⟨by rfl, ?_⟩) hHeld ?_ ?_
          rotate_left
          ·rintro w' ⟨s0, s1, s2, s3, s4, s5, s6, s7⟩
           go_simp
           with_reducible rfl
          rotate_left
          ·simp only [Act.put, List.setIfInBounds_toArray, List.set_cons_zero, List.set_cons_succ, i64_w, i32_w]
           rfl
          refine pure_ (i := 10) (N := some 41) (v := ?_) (a' := ?_) #[true, true, true, true, true, true, true, true, true, true, true, false, false, false, false, false, false, false, false, false, false, false, false, false] rfl rfl (any_of HT_.out (by kernel_rfl)) (fun _ _ _ h => h) (Or.inl ⟨by rfl, ?_⟩) ?_ ?_
          rotate_left
          ·intro w'
           go_simp
           with_reducible rfl
          rotate_left
          ·simp only [Act.put, List.setIfInBounds_toArray, List.set_cons_zero, List.set_cons_succ, i64_w, i32_w]
           rfl
          refine pure_ (i := 11) (N := some 42) (v := ?_) (a' := ?_) #[true, true, true, true, true, true, true, true, true, true, true, true, false, false, false, false, false, false, false, false, false, false, false, false] rfl rfl (any_of HT_.out (by kernel_rfl)) (fun _ _ _ h => h) (Or.inl ⟨by rfl, ?_⟩) ?_ ?_
          rotate_left
          ·intro w'
           go_simp
           with_reducible rfl
          rotate_left
          ·simp only [Act.put, List.setIfInBounds_toArray, List.set_cons_zero, List.set_cons_succ, i64_w, i32_w]
           rfl
          refine pure_ (i := 12) (N := some 43) (v := ?_) (a' := ?_) #[true, true, true, true, true, true, true, true, true, true, true, true, true, false, false, false, false, false, false, false, false, false, false, false] rfl rfl (any_of HT_.out (by kernel_rfl)) (fun _ _ _ h => h) (Or.inl ⟨by rfl, ?_⟩) ?_ ?_
          rotate_left
          ·intro w'
           go_simp
           with_reducible rfl
          rotate_left
          ·simp only [Act.put, List.setIfInBounds_toArray, List.set_cons_zero, List.set_cons_succ, i64_w, i32_w]
           rfl
          refine pure_ (i := 13) (N := some 44) (v := ?_) (a' := ?_) #[true, true, true, true, true, true, true, true, true, true, true, true, true, true, false, false, false, false, false, false, false, false, false, false] rfl rfl (any_of HT_.out (by kernel_rfl)) (fun _ _ _ h => h) (Or.inl ⟨by rfl, ?_⟩) ?_ ?_
          rotate_left
          ·intro w'
           go_simp
           with_reducible rfl
          rotate_left
          ·simp only [Act.put, List.setIfInBounds_toArray, List.set_cons_zero, List.set_cons_succ, i64_w, i32_w]
           rfl
          refine pure_ (i := 14) (N := some 45) (v := ?_) (a' := ?_) #[true, true, true, true, true, true, true, true, true, true, true, true, true, true, true, false, false, false, false, false, false, false, false, false] rfl rfl (any_of HT_.out (by kernel_rfl)) (fun _ _ _ h => h) (Or.inl ⟨by rfl, ?_⟩) ?_ ?_
          rotate_left
          ·intro w'
           go_simp
           with_reducible rfl
          rotate_left
          ·simp only [Act.put, List.setIfInBounds_toArray, List.set_cons_zero, List.set_cons_succ, i64_w, i32_w]
           rfl
          refine pure_ (i := 15) (N := some 46) (v := ?_) (a' := ?_) #[true, true, true, true, true, true, true, true, true, true, true, true, true, true, true, true, false, false, false, false, false, false, false, false] rfl rfl (any_of HT_.out (by kernel_rfl)) (fun _ _ _ h => h) (Or.inl ⟨by rfl, ?_⟩) ?_ ?_
          rotate_left
          ·intro w'
           go_simp
           with_reducible rfl
          rotate_left
          ·simp only [Act.put, List.setIfInBounds_toArray, List.set_cons_zero, List.set_cons_succ, i64_w, i32_w]
           rfl
          refine pure_ (i := 17) (N := some 48) (v := ?_) (a' := ?_) #[true, true, true, true, true, true, true, true, true, true, true, true, true, true, true, true, false, true, false, false, false, false, false, false] rfl rfl (any_of HT_.out (by kernel_rfl)) (fun _ _ _ h => h) (Or.inl ⟨by rfl, ?_⟩) ?_ ?_
          rotate_left
          ·intro w'
           go_simp
           with_reducible rfl
          rotate_left
          ·simp only [Act.put, List.setIfInBounds_toArray, List.set_cons_zero, List.set_cons_succ, i64_w, i32_w]
           rfl
          refine pure_ (i := 18) (N := some 49) (v := ?_) (a' := ?_) #[true, true, true, true, true, true, true, true, true, true, true, true, true, true, true, true, false, true, true, false, false, false, false, false] rfl rfl (any_of HT_.out (by kernel_rfl)) (fun _ _ _ h => h) (Or.inl ⟨by rfl, ?_⟩) ?_ ?_
          rotate_left
          ·intro w'
           go_simp
           with_reducible rfl
          rotate_left
          ·simp only [Act.put, List.setIfInBounds_toArray, List.set_cons_zero, List.set_cons_succ, i64_w, i32_w]
           rfl
          refine pure_ (i := 19) (N := some 50) (v := ?_) (a' := ?_) #[true, true, true, true, true, true, true, true, true, true, true, true, true, true, true, true, false, true, true, true, false, false, false, false] rfl rfl (any_of HT_.out (by kernel_rfl)) (fun _ _ _ h => h) (Or.inl ⟨by rfl, ?_⟩) ?_ ?_
          rotate_left
          ·intro w'
           go_simp
           with_reducible rfl
          rotate_left
          ·simp only [Act.put, List.setIfInBounds_toArray, List.set_cons_zero, List.set_cons_succ, i64_w, i32_w]
           rfl
          refine pure_ (i := 20) (N := some 51) (v := ?_) (a' := ?_) #[true, true, true, true, true, true, true, true, true, true, true, true, true, true, true, true, false, true, true, true, true, false, false, false] rfl rfl (any_of HT_.out (by kernel_rfl)) (fun _ _ _ h => h) (Or.inl ⟨by rfl, ?_⟩) ?_ ?_
          rotate_left
          ·intro w'
           go_simp
           with_reducible rfl
          rotate_left
          ·simp only [Act.put, List.setIfInBounds_toArray, List.set_cons_zero, List.set_cons_succ, i64_w, i32_w]
           rfl
          refine take_ (i := 16) (N := some 47) (v := ?_) (a' := ?_) #[true, true, true, true, true, true, true, true, true, true, true, true, true, true, true, true, true, true, true, true, true, false, false, false] rfl rfl (take_ofW HT_.out HW_.out (by kernel_rfl)) (fun _ _ _ h => h) (Or.inl ⟨by rfl, ?_⟩) hHeld ?_ ?_
          rotate_left
          ·rintro w' ⟨s0, s1, s2, s3, s4, s5, s6, s7⟩
           go_simp
           with_reducible rfl
          rotate_left
          ·simp only [Act.put, List.setIfInBounds_toArray, List.set_cons_zero, List.set_cons_succ, i64_w, i32_w]
           rfl
          refine take_ (i := 21) (N := some 52) (v := ?_) (a' := ?_) #[true, true, true, true, true, true, true, true, true, true, true, true, true, true, true, true, true, true, true, true, true, true, false, false] rfl rfl (take_ofW HT_.out HW_.out (by kernel_rfl)) (fun _ _ _ h => h) (Or.inl ⟨by rfl, ?_⟩) hHeld ?_ ?_
          rotate_left
          ·rintro w' ⟨s0, s1, s2, s3, s4, s5, s6, s7⟩
           go_simp
           with_reducible rfl
          rotate_left
          ·simp only [Act.put, List.setIfInBounds_toArray, List.set_cons_zero, List.set_cons_succ, i64_w, i32_w]
           rfl
          refine pure_ (i := 22) (N := some 53) (v := ?_) (a' := ?_) #[true, true, true, true, true, true, true, true, true, true, true, true, true, true, true, true, true, true, true, true, true, true, true, false] rfl rfl (any_of HT_.out (by kernel_rfl)) (fun _ _ _ h => h) (Or.inl ⟨by rfl, ?_⟩) ?_ ?_
          rotate_left
          ·intro w'
           go_simp
           with_reducible rfl
          rotate_left
          ·simp only [Act.put, List.setIfInBounds_toArray, List.set_cons_zero, List.set_cons_succ, i64_w, i32_w]
           rfl
          refine pure_ (i := 23) (N := some 54) (v := ?_) (a' := ?_) #[true, true, true, true, true, true, true, true, true, true, true, true, true, true, true, true, true, true, true, true, true, true, true, true] rfl rfl (any_of HT_.out (by kernel_rfl)) (fun _ _ _ h => h) (Or.inl ⟨by rfl, ?_⟩) ?_ ?_
          rotate_left
          ·intro w'
           go_simp
           with_reducible rfl
          rotate_left
          ·simp only [Act.put, List.setIfInBounds_toArray, List.set_cons_zero, List.set_cons_succ, i64_w, i32_w]
           rfl
          refine done_ (done_of HT_.out (by kernel_rfl)) ?_
          try go_wp2
          go_ret
          exact ⟨by first | rfl | (simp [errW_none, errW_some] <;> rfl) | (simp [*, errW_none, errW_some] <;> rfl), by repeat (first | (with_reducible first | exact HB.out | apply below_alloc | apply pw_below_drewN | apply below_drew1 | refine below_set ?_ GE327.out) | exact HB.out)⟩
        ·rw [if_neg c26] at H
         have c26b0 : (((rd_T34 t331 x7_1).f0).toList == ((rd_T34 t334 x7_1).f0).toList) = false := beq_eq_false_iff_ne.mpr c26
         have c26b1 : (((rd_T34 t331 x7_1).f0).toList != ((rd_T34 t334 x7_1).f0).toList) = true := bne_iff_ne.mpr c26
         obtain rfl := Option.some.inj H
         try go_wp2
         have n0_ := Aside0.mk (Kd.R_drew HO_5.out)
         have n1_ := Aside0.mk (Kd.R_drew HO_6.out)
         have n2_ := Aside0.mk (Kd.R_drew HO_328000.out)
         have n3_ := Aside0.mk (blk_drew BK327.out)
         have n4_ := Aside0.mk (below_drew1 HB.out)
         clear HO_5
         clear HO_6
         clear HO_328000
         clear BK327
         clear HB
         have HO_5 := n0_
         have HO_6 := n1_
         have HO_328000 := n2_
         have BK327 := n3_
         have HB := n4_
         clear n0_ n1_ n2_ n3_ n4_
         have p337 : 0 ≤ (x7_1 : Int) := of_decide_eq_true (by first | (with_reducible assumption) | assumption)
         have q337 : x7_1 < (t331.length : Int) := of_decide_eq_true (by first | (with_reducible assumption) | assumption)
         obtain ⟨ad337, e337, hx337_0, hx337_1⟩ := at_T34 (Kd.R_reads' HO_5.out).2.2 x7_1 p337 q337
         cases e337
         replace p337 := eq_true p337
         replace q337 := eq_true q337
         have p338 : 0 ≤ (x7_1 : Int) := of_decide_eq_true (by first | (with_reducible assumption) | assumption)
         have q338 : x7_1 < (t334.length : Int) := of_decide_eq_true (by first | (with_reducible assumption) | assumption)
         obtain ⟨ad338, e338, hx338_0, hx338_1⟩ := at_T34 (Kd.R_reads' HO_6.out).2.2 x7_1 p338 q338
         cases e338
         replace p338 := eq_true p338
         replace q338 := eq_true q338
         refine start_ (n := 24) (S := fun w' => w'.cell? (ad337.add ((x7_1).toNat * 2)) = some (.string ((rd_T34 t331 x7_1).f0)) ∧ w'.cell? ⟨(ad337.add ((x7_1).toNat * 2)).block, (ad337.add ((x7_1).toNat * 2)).off + 1, none⟩ = some (.string ((rd_T34 t331 x7_1).f1)) ∧ w'.cell? (ad338.add ((x7_1).toNat * 2)) = some (.string ((rd_T34 t334 x7_1).f0)) ∧ w'.cell? ⟨(ad338.add ((x7_1).toNat * 2)).block, (ad338.add ((x7_1).toNat * 2)).off + 1, none⟩ = some (.string ((rd_T34 t334 x7_1).f1))) (ds := []) #[false, false, false, false, false, false, false, false, false, false, false, false, false, false, false, false, false, false, false, false, false, false, false, false] (by kernel_rfl) rfl rfl ⟨hx337_0, hx337_1, hx338_0, hx338_1⟩ (fun hHeld => ?_); refine with_tabW conciergelaw20_OrderTwice.tab12 conciergelaw20_OrderTwice.bits12 (fun HT_ HW_ => ?_)
         generalize wr.drew = w30 at HO_5 HO_6 HO_328000 BK327 HB hx337_0 hx337_1 hx338_0 hx338_1 hHeld ⊢
         refine pure_ (i := 0) (N := some 31) (v := ?_) (a' := ?_) #[true, false, false, false, false, false, false, false, false, false, false, false, false, false, false, false, false, false, false, false, false, false, false, false] rfl rfl (any_of HT_.out (by kernel_rfl)) (fun _ _ _ h => h) (Or.inl ⟨by rfl, ?_⟩) ?_ ?_
         rotate_left
         ·intro w'
          go_simp
          with_reducible rfl
         rotate_left
         ·simp only [Act.put, List.setIfInBounds_toArray, List.set_cons_zero, List.set_cons_succ, i64_w, i32_w]
          rfl
         refine pure_ (i := 1) (N := some 32) (v := ?_) (a' := ?_) #[true, true, false, false, false, false, false, false, false, false, false, false, false, false, false, false, false, false, false, false, false, false, false, false] rfl rfl (any_of HT_.out (by kernel_rfl)) (fun _ _ _ h => h) (Or.inl ⟨by rfl, ?_⟩) ?_ ?_
         rotate_left
         ·intro w'
          go_simp
          with_reducible rfl
         rotate_left
         ·simp only [Act.put, List.setIfInBounds_toArray, List.set_cons_zero, List.set_cons_succ, i64_w, i32_w]
          rfl
         refine pure_ (i := 2) (N := some 33) (v := ?_) (a' := ?_) #[true, true, true, false, false, false, false, false, false, false, false, false, false, false, false, false, false, false, false, false, false, false, false, false] rfl rfl (any_of HT_.out (by kernel_rfl)) (fun _ _ _ h => h) (Or.inl ⟨by rfl, ?_⟩) ?_ ?_
         rotate_left
         ·intro w'
          go_simp
          with_reducible rfl
         rotate_left
         ·simp only [Act.put, List.setIfInBounds_toArray, List.set_cons_zero, List.set_cons_succ, i64_w, i32_w]
          rfl
         refine pure_ (i := 3) (N := some 34) (v := ?_) (a' := ?_) #[true, true, true, true, false, false, false, false, false, false, false, false, false, false, false, false, false, false, false, false, false, false, false, false] rfl rfl (any_of HT_.out (by kernel_rfl)) (fun _ _ _ h => h) (Or.inl ⟨by rfl, ?_⟩) ?_ ?_
         rotate_left
         ·intro w'
          go_simp
          with_reducible rfl
         rotate_left
         ·simp only [Act.put, List.setIfInBounds_toArray, List.set_cons_zero, List.set_cons_succ, i64_w, i32_w]
          rfl
         refine pure_ (i := 5) (N := some 36) (v := ?_) (a' := ?_) #[true, true, true, true, false, true, false, false, false, false, false, false, false, false, false, false, false, false, false, false, false, false, false, false] rfl rfl (any_of HT_.out (by kernel_rfl)) (fun _ _ _ h => h) (Or.inl ⟨by rfl, ?_⟩) ?_ ?_
         rotate_left
         ·intro w'
          go_simp
          with_reducible rfl
         rotate_left
         ·simp only [Act.put, List.setIfInBounds_toArray, List.set_cons_zero, List.set_cons_succ, i64_w, i32_w]
          rfl
         refine pure_ (i := 6) (N := some 37) (v := ?_) (a' := ?_) #[true, true, true, true, false, true, true, false, false, false, false, false, false, false, false, false, false, false, false, false, false, false, false, false] rfl rfl (any_of HT_.out (by kernel_rfl)) (fun _ _ _ h => h) (Or.inl ⟨by rfl, ?_⟩) ?_ ?_
         rotate_left
         ·intro w'
          go_simp
          with_reducible rfl
         rotate_left
         ·simp only [Act.put, List.setIfInBounds_toArray, List.set_cons_zero, List.set_cons_succ, i64_w, i32_w]
          rfl
         refine pure_ (i := 7) (N := some 38) (v := ?_) (a' := ?_) #[true, true, true, true, false, true, true, true, false, false, false, false, false, false, false, false, false, false, false, false, false, false, false, false] rfl rfl (any_of HT_.out (by kernel_rfl)) (fun _ _ _ h => h) (Or.inl ⟨by rfl, ?_⟩) ?_ ?_
         rotate_left
         ·intro w'
          go_simp
          with_reducible rfl
         rotate_left
         ·simp only [Act.put, List.setIfInBounds_toArray, List.set_cons_zero, List.set_cons_succ, i64_w, i32_w]
          rfl
         refine pure_ (i := 8) (N := some 39) (v := ?_) (a' := ?_) #[true, true, true, true, false, true, true, true, true, false, false, false, false, false, false, false, false, false, false, false, false, false, false, false] rfl rfl (any_of HT_.out (by kernel_rfl)) (fun _ _ _ h => h) (Or.inl ⟨by rfl, ?_⟩) ?_ ?_
         rotate_left
         ·intro w'
          go_simp
          with_reducible rfl
         rotate_left
         ·simp only [Act.put, List.setIfInBounds_toArray, List.set_cons_zero, List.set_cons_succ, i64_w, i32_w]
          rfl
         refine take_ (i := 4) (N := some 35) (v := ?_) (a' := ?_) #[true, true, true, true, true, true, true, true, true, false, false, false, false, false, false, false, false, false, false, false, false, false, false, false] rfl rfl (take_ofW HT_.out HW_.out (by kernel_rfl)) (fun _ _ _ h => h) (Or.inl ⟨by rfl, ?_⟩) hHeld ?_ ?_
         rotate_left
         ·rintro w' ⟨s0, s1, s2, s3⟩
          go_simp
          with_reducible rfl
         rotate_left
         ·simp only [Act.put, List.setIfInBounds_toArray, List.set_cons_zero, List.set_cons_succ, i64_w, i32_w]
          rfl
         refine take_ (i := 9) (N := some 40) (v := ?_) (a' := ?_) #[true, true, true, true, true, true, true, true, true, true, false, false, false, false, false, false, false, false, false, false, false, false, false, false] rfl rfl (take_ofW HT_.out HW_.out (by kernel_rfl)) (fun _ _ _ h => h) (Or.inl ⟨by rfl, ?_⟩) hHeld ?_ ?_
         rotate_left
         ·rintro w' ⟨s0, s1, s2, s3⟩
          go_simp
          with_reducible rfl
         rotate_left
         ·simp only [Act.put, List.setIfInBounds_toArray, List.set_cons_zero, List.set_cons_succ, i64_w, i32_w]
          rfl
         refine pure_ (i := 10) (N := some 41) (v := ?_) (a' := ?_) #[true, true, true, true, true, true, true, true, true, true, true, false, false, false, false, false, false, false, false, false, false, false, false, false] rfl rfl (any_of HT_.out (by kernel_rfl)) (fun _ _ _ h => h) (Or.inl ⟨by rfl, ?_⟩) ?_ ?_
         rotate_left
         ·intro w'
          go_simp
          with_reducible rfl
         rotate_left
         ·simp only [Act.put, List.setIfInBounds_toArray, List.set_cons_zero, List.set_cons_succ, i64_w, i32_w]
          rfl
         refine pure_ (i := 11) (N := some 42) (v := ?_) (a' := ?_) #[true, true, true, true, true, true, true, true, true, true, true, true, false, false, false, false, false, false, false, false, false, false, false, false] rfl rfl (any_of HT_.out (by kernel_rfl)) (fun _ _ _ h => h) (Or.inl ⟨by rfl, ?_⟩) ?_ ?_
         rotate_left
         ·intro w'
          go_simp
          with_reducible rfl
         rotate_left
         ·simp only [Act.put, List.setIfInBounds_toArray, List.set_cons_zero, List.set_cons_succ, i64_w, i32_w]
          rfl
         refine pure_ (i := 12) (N := some 43) (v := undef) (a' := ?_) #[true, true, true, true, true, true, true, true, true, true, true, true, true, false, false, false, false, false, false, false, false, false, false, false] rfl rfl (any_of HT_.out (by kernel_rfl)) (fun _ _ _ h => h) (Or.inr ⟨by rfl, rfl⟩) ?_ ?_
         rotate_left
         ·simp only [Act.put, List.setIfInBounds_toArray, List.set_cons_zero, List.set_cons_succ, i64_w, i32_w]
          rfl
         refine pure_ (i := 13) (N := some 44) (v := undef) (a' := ?_) #[true, true, true, true, true, true, true, true, true, true, true, true, true, true, false, false, false, false, false, false, false, false, false, false] rfl rfl (any_of HT_.out (by kernel_rfl)) (fun _ _ _ h => h) (Or.inr ⟨by rfl, rfl⟩) ?_ ?_
         rotate_left
         ·simp only [Act.put, List.setIfInBounds_toArray, List.set_cons_zero, List.set_cons_succ, i64_w, i32_w]
          rfl
         refine pure_ (i := 14) (N := some 45) (v := undef) (a' := ?_) #[true, true, true, true, true, true, true, true, true, true, true, true, true, true, true, false, false, false, false, false, false, false, false, false] rfl rfl (any_of HT_.out (by kernel_rfl)) (fun _ _ _ h => h) (Or.inr ⟨by rfl, rfl⟩) ?_ ?_
         rotate_left
         ·simp only [Act.put, List.setIfInBounds_toArray, List.set_cons_zero, List.set_cons_succ, i64_w, i32_w]
          rfl
         refine pure_ (i := 15) (N := some 46) (v := undef) (a' := ?_) #[true, true, true, true, true, true, true, true, true, true, true, true, true, true, true, true, false, false, false, false, false, false, false, false] rfl rfl (any_of HT_.out (by kernel_rfl)) (fun _ _ _ h => h) (Or.inr ⟨by rfl, rfl⟩) ?_ ?_
         rotate_left
         ·simp only [Act.put, List.setIfInBounds_toArray, List.set_cons_zero, List.set_cons_succ, i64_w, i32_w]
          rfl
         refine pure_ (i := 16) (N := some 47) (v := undef) (a' := ?_) #[true, true, true, true, true, true, true, true, true, true, true, true, true, true, true, true, true, false, false, false, false, false, false, false] rfl rfl (any_of HT_.out (by kernel_rfl)) (fun _ _ _ h => h) (Or.inr ⟨by rfl, rfl⟩) ?_ ?_
         rotate_left
         ·simp only [Act.put, List.setIfInBounds_toArray, List.set_cons_zero, List.set_cons_succ, i64_w, i32_w]
          rfl
         refine pure_ (i := 17) (N := some 48) (v := undef) (a' := ?_) #[true, true, true, true, true, true, true, true, true, true, true, true, true, true, true, true, true, true, false, false, false, false, false, false] rfl rfl (any_of HT_.out (by kernel_rfl)) (fun _ _ _ h => h) (Or.inr ⟨by rfl, rfl⟩) ?_ ?_
         rotate_left
         ·simp only [Act.put, List.setIfInBounds_toArray, List.set_cons_zero, List.set_cons_succ, i64_w, i32_w]
          rfl
         refine pure_ (i := 18) (N := some 49) (v := undef) (a' := ?_) #[true, true, true, true, true, true, true, true, true, true, true, true, true, true, true, true, true, true, true, false, false, false, false, false] rfl rfl (any_of HT_.out (by kernel_rfl)) (fun _ _ _ h => h) (Or.inr ⟨by rfl, rfl⟩) ?_ ?_
         rotate_left
         ·simp only [Act.put, List.setIfInBounds_toArray, List.set_cons_zero, List.set_cons_succ, i64_w, i32_w]
          rfl
         refine pure_ (i := 19) (N := some 50) (v := undef) (a' := ?_) #[true, true, true, true, true, true, true, true, true, true, true, true, true, true, true, true, true, true, true, true, false, false, false, false] rfl rfl (any_of HT_.out (by kernel_rfl)) (fun _ _ _ h => h) (Or.inr ⟨by rfl, rfl⟩) ?_ ?_
         rotate_left
         ·simp only [Act.put, List.setIfInBounds_toArray, List.set_cons_zero, List.set_cons_succ, i64_w, i32_w]
          rfl
         refine pure_ (i := 20) (N := some 51) (v := undef) (a' := ?_) #[true, true, true, true, true, true, true, true, true, true, true, true, true, true, true, true, true, true, true, true, true, false, false, false] rfl rfl (any_of HT_.out (by kernel_rfl)) (fun _ _ _ h => h) (Or.inr ⟨by rfl, rfl⟩) ?_ ?_
         rotate_left
         ·simp only [Act.put, List.setIfInBounds_toArray, List.set_cons_zero, List.set_cons_succ, i64_w, i32_w]
          rfl
         refine pure_ (i := 21) (N := some 52) (v := undef) (a' := ?_) #[true, true, true, true, true, true, true, true, true, true, true, true, true, true, true, true, true, true, true, true, true, true, false, false] rfl rfl (any_of HT_.out (by kernel_rfl)) (fun _ _ _ h => h) (Or.inr ⟨by rfl, rfl⟩) ?_ ?_
         rotate_left
         ·simp only [Act.put, List.setIfInBounds_toArray, List.set_cons_zero, List.set_cons_succ, i64_w, i32_w]
          rfl
         refine pure_ (i := 22) (N := some 53) (v := undef) (a' := ?_) #[true, true, true, true, true, true, true, true, true, true, true, true, true, true, true, true, true, true, true, true, true, true, true, false] rfl rfl (any_of HT_.out (by kernel_rfl)) (fun _ _ _ h => h) (Or.inr ⟨by rfl, rfl⟩) ?_ ?_
         rotate_left
         ·simp only [Act.put, List.setIfInBounds_toArray, List.set_cons_zero, List.set_cons_succ, i64_w, i32_w]
          rfl
         refine pure_ (i := 23) (N := some 54) (v := ?_) (a' := ?_) #[true, true, true, true, true, true, true, true, true, true, true, true, true, true, true, true, true, true, true, true, true, true, true, true] rfl rfl (any_of HT_.out (by kernel_rfl)) (fun _ _ _ h => h) (Or.inl ⟨by rfl, ?_⟩) ?_ ?_
         rotate_left
         ·intro w'
          go_simp
          with_reducible rfl
         rotate_left
         ·simp only [Act.put, List.setIfInBounds_toArray, List.set_cons_zero, List.set_cons_succ, i64_w, i32_w]
          rfl
         refine done_ (done_of HT_.out (by kernel_rfl)) ?_
         try go_wp2
         go_ret
         exact ⟨by first | rfl | (simp [errW_none, errW_some] <;> rfl) | (simp [*, errW_none, errW_some] <;> rfl), by repeat (first | (with_reducible first | exact HB.out | apply below_alloc | apply pw_below_drewN | apply below_drew1 | refine below_set ?_ GE327.out) | exact HB.out)⟩
       ·rw [if_neg c25] at H
        exact absurd H (by simp)
      ·rw [if_neg c24] at H
       exact absurd H (by simp)
     ·rw [if_neg c23] at H
      have c23b0 : decide (x7_1 < (t331.length : Int)) = false := decide_eq_false c23
      clear c23
      obtain rfl := Option.some.inj H
      go_wp2
      go_ret
      exact ⟨by first | rfl | (simp [errW_none, errW_some] <;> rfl) | (simp [*, errW_none, errW_some] <;> rfl), by repeat (first | (with_reducible first | exact HB.out | apply below_alloc | apply pw_below_drewN | apply below_drew1 | refine below_set ?_ GE327.out) | exact HB.out)⟩
  ·rw [if_neg c8] at H
   have c8b0 : ((t331.length : Int) == (t334.length : Int)) = false := beq_eq_false_iff_ne.mpr c8
   have c8b1 : ((t331.length : Int) != (t334.length : Int)) = true := bne_iff_ne.mpr c8
   have c8b2 : (t331.length == t334.length) = false := by first | simpa using c8 | (simp at c8 ⊢; omega)
   obtain rfl := Option.some.inj H
   go_enter Try.func5, Try.ntmps5
   try go_wp2_with (first | ((with_reducible refine gate_callee (f := 7) rfl ?_); refine goesL_ (some 8) rfl rfl Try.func7 (by kernel_rfl) rfl #[] rfl (by (try simp only [List.map_toArray, List.map_cons, List.map_nil]); first | done | rfl | (simp only [List.length_drop, List.length_take]; rfl)) ?_; (with_reducible refine (conciergelaw20_begun.calls k  true _ A2.out).mono ?_); rintro e w31 ⟨rfl, hb⟩; refine ⟨_, rfl, ?_⟩; have n0_ := Aside0.mk (below_step (by repeat (first | (with_reducible first | exact HB.out | apply below_alloc | apply pw_below_drewN | apply below_drew1) | exact HB.out)) hb); clear HB; have HB := n0_; clear n0_; (try clear hb); (try clear hb2); (try clear hk); (try clear hi)) | ((with_reducible refine gate_callee (f := 19) rfl ?_); refine goesL_ (some 11) rfl rfl Try.func19 (by kernel_rfl) rfl #[] rfl (by (try simp only [List.map_toArray, List.map_cons, List.map_nil]); first | done | rfl | (simp only [List.length_drop, List.length_take]; rfl)) ?_; (with_reducible refine (conciergeref15_Rows.calls k  t324 _ A4.out).mono ?_); rintro e w32 ⟨v325, rfl, ho0, hb⟩; refine ⟨_, rfl, ?_⟩; have n0_ := Aside0.mk (Kd.R_lower ho0 (below_size (by repeat (first | (with_reducible first | exact HB.out | apply below_alloc | apply pw_below_drewN | apply below_drew1) | exact HB.out)))); have n1_ := Aside0.mk (below_step (by repeat (first | (with_reducible first | exact HB.out | apply below_alloc | apply pw_below_drewN | apply below_drew1) | exact HB.out)) hb); clear HB; have HO326 := n0_; have HB := n1_; clear n0_ n1_; (try clear hb); (try clear hb2); (try clear hk); (try clear hi); (try clear ho0); obtain ⟨Ao33, co33, eo33⟩ := Kd.R_slice HO326.out; subst eo33) | ((with_reducible refine gate_dst (N := 4) rfl ?_); refine box_event ?hg (N := 4) ?hd (cs := #[.slice none 0 0, .slice none 0 0]) (t := 28) ?hr ?_; (case hd => rfl); (case hg => rfl); (case hr => first | (go_simp; done) | (go_simp; rfl)); intro gb327 hg w34 hbox hb; have n0_ := Aside0.mk (Kd.R_below (by (with_reducible repeat (first | apply Kd.R_alloc | apply Kd.R_drewN | apply Kd.R_drew)); exact HO326.out) hb); have n1_ := Aside0.mk (below_step (by repeat (first | (with_reducible first | exact HB.out | apply below_alloc | apply pw_below_drewN | apply below_drew1) | exact HB.out)) hb); have n2_ := Aside0.mk (hbox); have n3_ := Aside0.mk ((by rw [hg]; exact (below_size (by repeat (first | (with_reducible first | exact HB.out | apply below_alloc | apply pw_below_drewN | apply below_drew1) | exact HB.out))) : w.heap.size ≤ gb327)); have n4_ := Aside0.mk ((by rw [hg]; exact (below_size (by repeat (first | (with_reducible first | exact HB.out | apply below_alloc | apply pw_below_drewN | apply below_drew1) | exact HB.out))) : w.heap.size ≤ gb327)); clear HO326; clear HB; have HO326 := n0_; have HB := n1_; have BK327 := n2_; have GW327 := n3_; have GE327 := n4_; clear n0_ n1_ n2_ n3_ n4_; clear hb hbox hg; have hcz35_0 : w34.cell? ⟨gb327, 0, none⟩ = some (.slice none 0 0) := (blk_cell BK327.out 0).trans rfl; have hcz35_1 : w34.cell? ⟨gb327, 1, none⟩ = some (.slice none 0 0) := (blk_cell BK327.out 1).trans rfl; have hfz35_0 := blk_frozen BK327.out 0; have hfz35_1 := blk_frozen BK327.out 1))
   have n0_ : Aside0 (Kd.R k52 52 ((w34.setCell ⟨gb327, 0, none⟩ (.slice Ao33 t324.length co33)).setCell ⟨gb327, 1, none⟩ (.slice none 0 0)) w.heap.size (fun _ => True) (.slice Ao33 t324.length co33) t324) := ⟨by (with_reducible repeat (first | apply Kd.R_alloc | apply Kd.R_drewN | apply Kd.R_drew)); exact Kd.R_mono (Kd.R_far (p := ⟨gb327, 1, none⟩) (Kd.R_far (p := ⟨gb327, 0, none⟩) (Kd.R_types HO326.out BK327.out (by decide)) (fun _ hk => hk.2) (.slice Ao33 t324.length co33)) (fun _ hk => hk.2) (.slice none 0 0)) (fun _ hk => trivial)⟩
   have n1_ : Aside0 (((w34.setCell ⟨gb327, 0, none⟩ (.slice Ao33 t324.length co33)).setCell ⟨gb327, 1, none⟩ (.slice none 0 0)).heap[gb327]? = some (.cells #[.slice Ao33 t324.length co33, .slice none 0 0] 28 (0, 0))) := ⟨by (with_reducible repeat (first | refine blk_drewN ?_ _ | refine blk_drew ?_ | refine blk_alloc ?_ _)); refine blk_put (cs := #[.slice Ao33 t324.length co33, .slice none 0 0]) ?_ 1 _ rfl; (with_reducible repeat (first | refine blk_drewN ?_ _ | refine blk_drew ?_ | refine blk_alloc ?_ _)); refine blk_put (cs := #[.slice none 0 0, .slice none 0 0]) ?_ 0 _ rfl; (with_reducible repeat (first | refine blk_drewN ?_ _ | refine blk_drew ?_ | refine blk_alloc ?_ _)); exact BK327.out⟩
   have n2_ : Aside0 (Below w.heap.size w ((w34.setCell ⟨gb327, 0, none⟩ (.slice Ao33 t324.length co33)).setCell ⟨gb327, 1, none⟩ (.slice none 0 0))) := ⟨by repeat (first | (with_reducible first | exact HB.out | apply below_alloc | apply pw_below_drewN | apply below_drew1 | refine below_set ?_ GE327.out) | exact HB.out)⟩
   (try clear HO326)
   (try clear BK327)
   (try clear HB)
   generalize ((w34.setCell ⟨gb327, 0, none⟩ (.slice Ao33 t324.length co33)).setCell ⟨gb327, 1, none⟩ (.slice none 0 0)) = w36 at n0_ n1_ n2_ ⊢
   have HO326 := n0_
   have BK327 := n1_
   have HB := n2_
   clear n0_ n1_ n2_
   have n0_ := Aside0.mk (Kd.R_drew HO326.out)
   have n1_ := Aside0.mk (blk_drew BK327.out)
   have n2_ := Aside0.mk (below_drew1 HB.out)
   clear HO326
   clear BK327
   clear HB
   have HO326 := n0_
   have BK327 := n1_
   have HB := n2_
   clear n0_ n1_ n2_
   refine start_ (n := 5) (S := fun w' => w'.cell? ⟨gb327, 0, none⟩ = some (.slice Ao33 t324.length co33) ∧ w'.cell? ⟨gb327, 1, none⟩ = some (.slice none 0 0)) (ds := []) #[false, false, false, false, false] (by kernel_rfl) rfl rfl ⟨(blk_cell BK327.out 0).trans rfl, (blk_cell BK327.out 1).trans rfl⟩ (fun hHeld => ?_)
   generalize w36.drew = w37 at HO326 BK327 HB hHeld ⊢
   refine pure_ (i := 1) (N := some 14) (v := ?_) (a' := ?_) #[false, true, false, false, false] rfl rfl (by kernel_rfl) (fun _ _ _ h => h) (Or.inl ⟨by rfl, ?_⟩) ?_ ?_
   rotate_left
   ·intro w'
    go_simp
    with_reducible rfl
   rotate_left
   ·simp only [Act.put, List.setIfInBounds_toArray, List.set_cons_zero, List.set_cons_succ, i64_w, i32_w]
    rfl
   refine take_ (i := 0) (N := some 13) (v := ?_) (a' := ?_) #[true, true, false, false, false] rfl rfl (by kernel_rfl) (fun _ _ _ h => h) (Or.inl ⟨by rfl, ?_⟩) hHeld ?_ ?_
   rotate_left
   ·rintro w' ⟨s0, s1⟩
    go_simp
    with_reducible rfl
   rotate_left
   ·simp only [Act.put, List.setIfInBounds_toArray, List.set_cons_zero, List.set_cons_succ, i64_w, i32_w]
    rfl
   refine one_ (i := 2) (N := some 15) #[true, true, true, false, false] rfl rfl (by kernel_rfl) (by decide) (fun K hK => ?_)
   refine goes_ Try.func10 (by kernel_rfl) rfl #[.slice A0 l0.length c0] (by rfl) rfl rfl (by (try simp only [List.map_toArray, List.map_cons, List.map_nil]); first | done | rfl | (simp only [List.length_drop, List.length_take]; rfl)) ?_
   with_reducible refine (conciergelaw20_Cut.calls k _ _ l0 t328 _ ?side1 ?side2 A5.out).mono ?_
   (case side1 => repeat (first | exact (Kd.C_below HR0.out HB.out) | (with_reducible refine Kd.C_alloc ?_ _) | (with_reducible refine Kd.C_drewN ?_ _) | (with_reducible refine Kd.C_drew ?_)))
   (case side2 => exact HC0.out)
   rintro e w38 ⟨v329, rfl, ho0, hb⟩
   refine ⟨_, rfl, ?_⟩
   have n0_ := Aside0.mk (Kd.R_below (by (with_reducible repeat (first | apply Kd.R_alloc | apply Kd.R_drewN | apply Kd.R_drew)); exact HO326.out) hb)
   have n1_ := Aside0.mk (Kd.R_lower ho0 (below_size (by repeat (first | (with_reducible first | exact HB.out | apply below_alloc | apply pw_below_drewN | apply below_drew1 | refine below_set ?_ GE327.out) | exact HB.out))))
   have n2_ := Aside0.mk (blk_below (g := gb327) (o := .cells #[.slice Ao33 t324.length co33, .slice none 0 0] 28 (0, 0)) (by (with_reducible repeat (first | refine blk_drewN ?_ _ | refine blk_drew ?_ | refine blk_alloc ?_ _)); exact BK327.out) hb)
   have n3_ := Aside0.mk (below_step (by repeat (first | (with_reducible first | exact HB.out | apply below_alloc | apply pw_below_drewN | apply below_drew1 | refine below_set ?_ GE327.out) | exact HB.out)) hb)
   clear HO326
   clear BK327
   clear HB
   have HO326 := n0_
   have HO330 := n1_
   have BK327 := n2_
   have HB := n3_
   clear n0_ n1_ n2_ n3_
   (try clear hb)
   (try clear hb2)
   (try clear hk)
   (try clear hi)
   (try clear ho0)
   obtain ⟨Ao39, co39, eo39⟩ := Kd.R_slice HO330.out
   (first | subst eo39 | (injection eo39 with f1_ f2_ f3_; have f4_ := f1_.symm; have f5_ := f3_.symm; clear f1_ f2_ f3_; subst f4_; subst f5_))
   refine hK.out _ _ ⟨(blk_cell BK327.out 0).trans rfl, (blk_cell BK327.out 1).trans rfl⟩ (fun hHeld => ?_)
   clear hK K
   refine norm_ (a' := ?_) ?_ ?_
   rotate_left
   ·show Act.put _ (some 15) _ = _
    simp only [Act.put, List.setIfInBounds_toArray, List.set_cons_zero, List.set_cons_succ, i64_w, i32_w]
    rfl
   refine one_ (i := 3) (N := some 16) #[true, true, true, true, false] rfl rfl (by kernel_rfl) (by decide) (fun K hK => ?_)
   refine goes_ Try.func11 (by kernel_rfl) rfl #[.agg #[.slice Ao33 t324.length co33, .slice none 0 0], .slice Ao39 t328.length co39] (by rfl) rfl rfl (by (try simp only [List.map_toArray, List.map_cons, List.map_nil]); first | done | rfl | (simp only [List.length_drop, List.length_take]; rfl)) ?_
   refine (order_Sort.calls k _ _ t324 _ _ ([] : List ByteArray) _ _ t328 t331 _ ?side1 ?side2 ?side3 ?side4 ?side5 ?side6 A6.out).mono ?_
   (case side1 => repeat (first | exact (Kd.R_reads' HO326.out).2.2 | (with_reducible refine Kd.C_alloc ?_ _) | (with_reducible refine Kd.C_drewN ?_ _) | (with_reducible refine Kd.C_drew ?_)))
   (case side2 => exact (Kd.R_reads' HO326.out).2.1)
   (case side3 => exact Kd.C_nil _ _)
   (case side4 => exact Nat.le_refl _)
   (case side5 => repeat (first | exact (Kd.R_reads' HO330.out).2.2 | (with_reducible refine Kd.C_alloc ?_ _) | (with_reducible refine Kd.C_drewN ?_ _) | (with_reducible refine Kd.C_drew ?_)))
   (case side6 => exact (Kd.R_reads' HO330.out).2.1)
   rintro e w40 ⟨v332, rfl, ho0, hb⟩
   refine ⟨_, rfl, ?_⟩
   have n0_ := Aside0.mk (Kd.R_below (by (with_reducible repeat (first | apply Kd.R_alloc | apply Kd.R_drewN | apply Kd.R_drew)); exact HO326.out) hb)
   have n1_ := Aside0.mk (Kd.R_elder' (by (with_reducible repeat (first | apply Kd.R_alloc | apply Kd.R_drewN | apply Kd.R_drew)); exact HO330.out) (Kd.R_base ho0) hb)
   have n2_ := Aside0.mk (Kd.R_lower (Kd.R_new' ho0 (Kd.R_lt (by (with_reducible repeat (first | apply Kd.R_alloc | apply Kd.R_drewN | apply Kd.R_drew)); exact HO330.out))) (below_size (by repeat (first | (with_reducible first | exact HB.out | apply below_alloc | apply pw_below_drewN | apply below_drew1 | refine below_set ?_ GE327.out) | exact HB.out))))
   have n3_ := Aside0.mk (blk_below (g := gb327) (o := .cells #[.slice Ao33 t324.length co33, .slice none 0 0] 28 (0, 0)) (by (with_reducible repeat (first | refine blk_drewN ?_ _ | refine blk_drew ?_ | refine blk_alloc ?_ _)); exact BK327.out) hb)
   have n4_ := Aside0.mk (below_step (by repeat (first | (with_reducible first | exact HB.out | apply below_alloc | apply pw_below_drewN | apply below_drew1 | refine below_set ?_ GE327.out) | exact HB.out)) hb)
   clear HO326
   clear HO330
   clear BK327
   clear HB
   have HO326 := n0_
   have HO330 := n1_
   have HO333 := n2_
   have BK327 := n3_
   have HB := n4_
   clear n0_ n1_ n2_ n3_ n4_
   (try clear hb)
   (try clear hb2)
   (try clear hk)
   (try clear hi)
   (try clear ho0)
   refine hK.out _ _ ⟨(blk_cell BK327.out 0).trans rfl, (blk_cell BK327.out 1).trans rfl⟩ (fun hHeld => ?_)
   clear hK K
   refine norm_ (a' := ?_) ?_ ?_
   rotate_left
   ·show Act.put _ (some 16) _ = _
    simp only [Act.put, List.setIfInBounds_toArray, List.set_cons_zero, List.set_cons_succ, i64_w, i32_w]
    rfl
   refine pure_ (i := 4) (N := some 5) (v := ?_) (a' := ?_) #[true, true, true, true, true] rfl rfl (by kernel_rfl) (fun _ _ _ h => h) (Or.inl ⟨by rfl, ?_⟩) ?_ ?_
   rotate_left
   ·intro w'
    go_simp
    with_reducible rfl
   rotate_left
   ·simp only [Act.put, List.setIfInBounds_toArray, List.set_cons_zero, List.set_cons_succ, i64_w, i32_w]
    rfl
   refine done_ (by kernel_rfl) ?_
   have hcz41_0 : w40.cell? ⟨gb327, 0, none⟩ = some (.slice Ao33 t324.length co33) := (blk_cell BK327.out 0).trans rfl
   have hcz41_1 : w40.cell? ⟨gb327, 1, none⟩ = some (.slice none 0 0) := (blk_cell BK327.out 1).trans rfl
   have hfz41_0 := blk_frozen BK327.out 0
   have hfz41_1 := blk_frozen BK327.out 1
   obtain ⟨Ao42, co42, eo42⟩ := Kd.R_slice HO333.out
   subst eo42
   try go_wp2_with (first | ((with_reducible refine gate_callee (f := 11) rfl ?_); refine goesL_ (some 19) rfl rfl Try.func11 (by kernel_rfl) rfl #[.agg #[.slice Ao33 t324.length co33, .slice none 0 0], .slice Ao42 t331.length co42] rfl (by (try simp only [List.map_toArray, List.map_cons, List.map_nil]); first | done | rfl | (simp only [List.length_drop, List.length_take]; rfl)) ?_; (refine (order_Sort.calls k _ _ t324 _ _ ([] : List ByteArray) _ _ t331 t334 _ ?side1 ?side2 ?side3 ?side4 ?side5 ?side6 A7.out).mono ?_); (case side1 => repeat (first | exact (Kd.R_reads' HO326.out).2.2 | (with_reducible refine Kd.C_alloc ?_ _) | (with_reducible refine Kd.C_drewN ?_ _) | (with_reducible refine Kd.C_drew ?_))); (case side2 => exact (Kd.R_reads' HO326.out).2.1); (case side3 => exact Kd.C_nil _ _); (case side4 => exact Nat.le_refl _); (case side5 => repeat (first | exact (Kd.R_reads' HO333.out).2.2 | (with_reducible refine Kd.C_alloc ?_ _) | (with_reducible refine Kd.C_drewN ?_ _) | (with_reducible refine Kd.C_drew ?_))); (case side6 => exact (Kd.R_reads' HO333.out).2.1); rintro e w43 ⟨v335, rfl, ho0, hb⟩; refine ⟨_, rfl, ?_⟩; have n0_ := Aside0.mk (Kd.R_below (by (with_reducible repeat (first | apply Kd.R_alloc | apply Kd.R_drewN | apply Kd.R_drew)); exact HO326.out) hb); have n1_ := Aside0.mk (Kd.R_elder' (by (with_reducible repeat (first | apply Kd.R_alloc | apply Kd.R_drewN | apply Kd.R_drew)); exact HO330.out) (Kd.R_base ho0) hb); have n2_ := Aside0.mk (Kd.R_elder' (by (with_reducible repeat (first | apply Kd.R_alloc | apply Kd.R_drewN | apply Kd.R_drew)); exact HO333.out) (Kd.R_base ho0) hb); have n3_ := Aside0.mk (Kd.R_lower (Kd.R_new' (Kd.R_new' ho0 (Kd.R_lt (by (with_reducible repeat (first | apply Kd.R_alloc | apply Kd.R_drewN | apply Kd.R_drew)); exact HO330.out))) (Kd.R_lt (by (with_reducible repeat (first | apply Kd.R_alloc | apply Kd.R_drewN | apply Kd.R_drew)); exact HO333.out))) (below_size (by repeat (first | (with_reducible first | exact HB.out | apply below_alloc | apply pw_below_drewN | apply below_drew1 | refine below_set ?_ GE327.out) | exact HB.out)))); have n4_ := Aside0.mk (blk_below (g := gb327) (o := .cells #[.slice Ao33 t324.length co33, .slice none 0 0] 28 (0, 0)) (by (with_reducible repeat (first | refine blk_drewN ?_ _ | refine blk_drew ?_ | refine blk_alloc ?_ _)); exact BK327.out) hb); have n5_ := Aside0.mk (below_step (by repeat (first | (with_reducible first | exact HB.out | apply below_alloc | apply pw_below_drewN | apply below_drew1 | refine below_set ?_ GE327.out) | exact HB.out)) hb); clear HO326; clear HO330; clear HO333; clear BK327; clear HB; have HO326 := n0_; have HO330 := n1_; have HO333 := n2_; have HO336 := n3_; have BK327 := n4_; have HB := n5_; clear n0_ n1_ n2_ n3_ n4_ n5_; (try clear hb); (try clear hb2); (try clear hk); (try clear hi); (try clear ho0); obtain ⟨Ao44, co44, eo44⟩ := Kd.R_slice HO336.out; subst eo44))
   go_ret
   exact ⟨by first | rfl | (simp [errW_none, errW_some] <;> rfl) | (simp [*, errW_none, errW_some] <;> rfl), by repeat (first | (with_reducible first | exact HB.out | apply below_alloc | apply pw_below_drewN | apply below_drew1 | refine below_set ?_ GE327.out) | exact HB.out)⟩
 ·replace c3 := Bool.eq_false_iff.mpr c3
  subst c3
  have H1 : (some false) = some r := by rw [if_neg (show ¬ (false = true) by decide)] at H; exact H
  clear H
  have H := H1
  clear H1
  obtain rfl := Option.some.inj H
  go_enter Try.func5, Try.ntmps5
  go_wp2_with (first | ((with_reducible refine gate_callee (f := 7) rfl ?_); refine goesL_ (some 8) rfl rfl Try.func7 (by kernel_rfl) rfl #[] rfl (by (try simp only [List.map_toArray, List.map_cons, List.map_nil]); first | done | rfl | (simp only [List.length_drop, List.length_take]; rfl)) ?_; (with_reducible refine (conciergelaw20_begun.calls k  false _ A2.out).mono ?_); rintro e w45 ⟨rfl, hb⟩; refine ⟨_, rfl, ?_⟩; have n0_ := Aside0.mk (below_step (by repeat (first | (with_reducible first | exact HB.out | apply below_alloc | apply pw_below_drewN | apply below_drew1) | exact HB.out)) hb); clear HB; have HB := n0_; clear n0_; (try clear hb); (try clear hb2); (try clear hk); (try clear hi)))
  go_ret
  exact ⟨by first | rfl | (simp [errW_none, errW_some] <;> rfl) | (simp [*, errW_none, errW_some] <;> rfl), by repeat (first | (with_reducible first | exact HB.out | apply below_alloc | apply pw_below_drewN | apply below_drew1) | exact HB.out)⟩
end Go.Proofs.Ytleimaahdjljoaa.All
end
section
set_option linter.unusedVariables false
set_option linter.unusedSimpArgs false
namespace Go.Proofs.Ytleimaahdjljoaa.All
open Go.RowKit Go.Proofs.YtleimaahdjljoaaW.PrintWords Go.Proofs.YtleimaahdjljoaaW.PrintLast Go.Proofs.YtleimaahdjljoaaW.PrintMore
theorem lz_some (x : Int) (h0 : 0 ≤ x) (h1 : x ≤ 255) : ∃ r, bits_LeadingZeros8.f x = some r := by
 unfold bits_LeadingZeros8.f bits_Len8.f
 rw [if_pos h0, if_pos h1]
 exact ⟨_, rfl⟩
theorem bt_xor (a b : ByteArray) (i : Int) : 0 ≤ Go.bits .xor .u8 (bt a i) (bt b i) ∧ Go.bits .xor .u8 (bt a i) (bt b i) ≤ 255 := by
 have h1 := bt_range a i
 have h2 := bt_range b i
 rw [u8_xor _ _ (by omega) (by omega) (by omega) (by omega)]
 have h3 : (bt a i).toNat ^^^ (bt b i).toNat < 2 ^ 8 := Nat.xor_lt_two_pow (by omega) (by omega)
 omega
theorem w_succ (i n : Nat) (h : i < n) (hn : n ≤ 4611686018427387904) : wrap64 ((i : Int) + 1) = ((i + 1 : Nat) : Int) := by
 unfold wrap64
 omega
theorem common_l (a b : ByteArray) (hs : a.size = b.size) (hn : a.size ≤ 4611686018427387904) : ∀ (d i : Nat), a.size - i = d → ∃ r, Ev (fun k => addr_Common.l0 k a b (a.size : Int) (i : Int)) r
 | 0, i, h => ⟨_, Ev.step (f := fun _ => some (wrap64 (8 * (a.size : Int)))) (fun k => by simp only [addr_Common.l0]; rw [if_neg (by omega)]) (Ev.now _)⟩
 | d + 1, i, h => by
  have hlt : i < a.size := by omega
  by_cases hz : Go.bits .xor .u8 (bt a i) (bt b i) = 0
  ·obtain ⟨r, hr⟩ := common_l a b hs hn d (i + 1) (by omega)
   refine ⟨r, Ev.step (fun k => ?_) hr⟩
   simp only [addr_Common.l0]
   rw [if_pos (by omega), if_pos (by omega), if_pos (by omega), if_pos (by omega), if_pos hz, w_succ i _ hlt hn]
  ·obtain ⟨z, hl⟩ := lz_some _ (bt_xor a b i).1 (bt_xor a b i).2
   refine ⟨_, Ev.step (f := fun _ => some (wrap64 ((wrap64 (8 * (i : Int))) + z))) (fun k => ?_) (Ev.now _)⟩
   simp only [addr_Common.l0]
   rw [if_pos (by omega), if_pos (by omega), if_pos (by omega), if_pos (by omega), if_neg hz, hl]
   rfl
theorem is_some (a : ByteArray) : addr_Is.f a = some (decide (a.size = 4 ∨ a.size = 16)) := by
 unfold addr_Is.f
 by_cases h : a.size = 4
 ·rw [if_pos (by omega)]; simp [h]
 ·rw [if_neg (by omega)]
  by_cases h2 : a.size = 16
  ·simp [h, h2]
  ·simp [h, h2]; omega
theorem common_j (a b : ByteArray) (hs : a.size = b.size) (hn : a.size ≤ 4611686018427387904) (t : Bool) : ∃ r, Ev (fun k => addr_Common.j0 k a b t) r := by
 cases t with
 | true => exact ⟨_, Ev.step (f := fun _ => some 0) (fun k => by simp [addr_Common.j0]) (Ev.now _)⟩
 | false =>
  obtain ⟨r, hr⟩ := common_l a b hs hn _ 0 rfl
  exact ⟨r, Ev.step (fun k => by simp only [addr_Common.j0]; rw [if_neg (by decide)]; rfl) hr⟩
theorem common_some (a b : ByteArray) : ∃ r, Ev (fun k => addr_Common.f k a b) r := by
 by_cases hs : a.size = b.size
 ·by_cases hi : a.size = 4 ∨ a.size = 16
  ·obtain ⟨r, hr⟩ := common_j a b hs (by omega) false
   refine ⟨r, Ev.congr (fun k => ?_) hr⟩
   unfold addr_Common.f
   rw [if_pos (by omega), is_some, decide_eq_true hi]
   rfl
  ·refine ⟨0, Ev.congr (f := fun k => addr_Common.j0 k a b true) (fun k => ?_) (Ev.step (f := fun _ => some 0) (fun k => by simp [addr_Common.j0]) (Ev.now _))⟩
   unfold addr_Common.f
   rw [if_pos (by omega), is_some, decide_eq_false hi]
   rfl
 ·refine ⟨0, Ev.congr (f := fun k => addr_Common.j0 k a b true) (fun k => ?_) (Ev.step (f := fun _ => some 0) (fun k => by simp [addr_Common.j0]) (Ev.now _))⟩
  unfold addr_Common.f
  rw [if_neg (by omega)]
theorem in_some (a b : ByteArray) (n : Int) : ∃ r, Ev (fun k => addr_In.f k a b n) r := by
 obtain ⟨c, K, hK⟩ := common_some a b
 by_cases h1 : (a.size : Int) = (b.size : Int)
 ·by_cases h2 : a.size = 4 ∨ a.size = 16
  ·by_cases h3 : n ≥ 0
   ·by_cases h4 : n ≤ wrap64 (8 * (a.size : Int))
    ·refine ⟨decide (c ≥ n), K, fun k hk => ?_⟩
     show addr_In.f k a b n = _
     unfold addr_In.f
     rw [if_pos h1, is_some, decide_eq_true h2]
     simp only [Option.bind_some, if_true]
     rw [if_pos h3, if_pos h4, show addr_Common.f k a b = some c from hK k hk]
     rfl
    ·refine ⟨false, 0, fun k _ => ?_⟩
     show addr_In.f k a b n = _
     unfold addr_In.f
     rw [if_pos h1, is_some, decide_eq_true h2]
     simp only [Option.bind_some, if_true]
     rw [if_pos h3, if_neg h4]
   ·refine ⟨false, 0, fun k _ => ?_⟩
    show addr_In.f k a b n = _
    unfold addr_In.f
    rw [if_pos h1, is_some, decide_eq_true h2]
    simp only [Option.bind_some, if_true]
    rw [if_neg h3]
  ·refine ⟨false, 0, fun k _ => ?_⟩
   show addr_In.f k a b n = _
   unfold addr_In.f
   rw [if_pos h1, is_some, decide_eq_false h2]
   rfl
 ·refine ⟨false, 0, fun k _ => ?_⟩
  show addr_In.f k a b n = _
  unfold addr_In.f
  rw [if_neg h1]
theorem wide_some (a : ByteArray) : ∃ r, selecttab_wide.f a = some r := by
 unfold selecttab_wide.f
 by_cases h : (a.size : Int) = 4
 ·rw [if_pos h, if_pos (by omega)]; exact ⟨_, rfl⟩
 ·rw [if_neg h]; exact ⟨_, rfl⟩
theorem row_l (a : ByteArray) (R : List S52) (hn : R.length ≤ 4611686018427387904) : ∀ (d i : Nat) (x y z : Int), R.length - i = d → ∃ r, Ev (fun k => selecttab_Row.l0 k a x y z R (R.length : Int) (i : Int)) r
 | 0, i, x, y, z, h => ⟨_, Ev.step (f := fun _ => some (x, y)) (fun k => by simp only [selecttab_Row.l0]; rw [if_neg (by omega)]) (Ev.now _)⟩
 | d + 1, i, x, y, z, h => by
  have hlt : i < R.length := by omega
  obtain ⟨w, hw⟩ := wide_some a
  obtain ⟨t, ht⟩ := in_some w (rd_T52 R i).f0 (rd_T52 R i).f1
  have hs := w_succ i _ hlt hn
  cases t with
  | false =>
   obtain ⟨r, hr⟩ := row_l a R hn d (i + 1) x y z (by omega)
   refine ⟨r, Ev.step (f := fun k => (addr_In.f k w (rd_T52 R i).f0 (rd_T52 R i).f1).bind fun t => if t = true then (if ((rd_T52 R i).f1) > z then (selecttab_Row.l0 k a ((rd_T52 R i).f2) ((rd_T52 R i).f3) ((rd_T52 R i).f1) R (R.length : Int) ((i + 1 : Nat) : Int)) else (selecttab_Row.l0 k a x y z R (R.length : Int) ((i + 1 : Nat) : Int))) else (selecttab_Row.l0 k a x y z R (R.length : Int) ((i + 1 : Nat) : Int))) (fun k => ?_) (Ev.bind ht (Ev.congr (fun k => ?_) hr))⟩
   ·simp only [selecttab_Row.l0]
    rw [if_pos (by omega), if_pos (by omega), if_pos (by omega), hw, hs]
    rfl
   ·rw [if_neg (by decide)]
  | true =>
   by_cases hg : ((rd_T52 R i).f1) > z
   ·obtain ⟨r, hr⟩ := row_l a R hn d (i + 1) ((rd_T52 R i).f2) ((rd_T52 R i).f3) ((rd_T52 R i).f1) (by omega)
    refine ⟨r, Ev.step (f := fun k => (addr_In.f k w (rd_T52 R i).f0 (rd_T52 R i).f1).bind fun t => if t = true then (if ((rd_T52 R i).f1) > z then (selecttab_Row.l0 k a ((rd_T52 R i).f2) ((rd_T52 R i).f3) ((rd_T52 R i).f1) R (R.length : Int) ((i + 1 : Nat) : Int)) else (selecttab_Row.l0 k a x y z R (R.length : Int) ((i + 1 : Nat) : Int))) else (selecttab_Row.l0 k a x y z R (R.length : Int) ((i + 1 : Nat) : Int))) (fun k => ?_) (Ev.bind ht (Ev.congr (fun k => ?_) hr))⟩
    ·simp only [selecttab_Row.l0]
     rw [if_pos (by omega), if_pos (by omega), if_pos (by omega), hw, hs]
     rfl
    ·rw [if_pos rfl, if_pos hg]
   ·obtain ⟨r, hr⟩ := row_l a R hn d (i + 1) x y z (by omega)
    refine ⟨r, Ev.step (f := fun k => (addr_In.f k w (rd_T52 R i).f0 (rd_T52 R i).f1).bind fun t => if t = true then (if ((rd_T52 R i).f1) > z then (selecttab_Row.l0 k a ((rd_T52 R i).f2) ((rd_T52 R i).f3) ((rd_T52 R i).f1) R (R.length : Int) ((i + 1 : Nat) : Int)) else (selecttab_Row.l0 k a x y z R (R.length : Int) ((i + 1 : Nat) : Int))) else (selecttab_Row.l0 k a x y z R (R.length : Int) ((i + 1 : Nat) : Int))) (fun k => ?_) (Ev.bind ht (Ev.congr (fun k => ?_) hr))⟩
    ·simp only [selecttab_Row.l0]
     rw [if_pos (by omega), if_pos (by omega), if_pos (by omega), hw, hs]
     rfl
    ·rw [if_pos rfl, if_neg hg]
theorem row_some (R : List S52) (O : List ByteArray) (hn : R.length ≤ 4611686018427387904) (a : ByteArray) : ∃ r, Ev (fun k => selecttab_Row.f k R O a) r := by
 by_cases h : a.size = 4 ∨ a.size = 16
 ·obtain ⟨r, hr⟩ := row_l a R hn _ 0 1 40 (-1) rfl
  refine ⟨r, Ev.congr (fun k => ?_) hr⟩
  unfold selecttab_Row.f
  rw [is_some, decide_eq_true h]
  rfl
 ·refine ⟨(1, 40), Ev.congr (fun k => ?_) (Ev.now _)⟩
  unfold selecttab_Row.f
  rw [is_some, decide_eq_false h]
  rfl
theorem scope_j1 (a : ByteArray) (h : a.size = 16) (t : Bool) : ∃ r, Ev (fun k => selecttab_Scope.j1 k a t) r := by
 refine ⟨_, Ev.step (f := fun _ => if t = true then (some 2) else (if (bt a 0) = 255 then (some (wrap64 (Go.bits .and .u8 (bt a 1) 15))) else (some 14))) (fun k => ?_) (r := if t = true then 2 else (if (bt a 0) = 255 then (wrap64 (Go.bits .and .u8 (bt a 1) 15)) else 14)) ⟨0, fun k _ => ?_⟩⟩
 ·simp only [selecttab_Scope.j1]
  rw [if_pos (show 0 < (a.size : Int) by omega), if_pos (show 1 < (a.size : Int) by omega)]
 ·split
  ·rfl
  ·split <;> rfl
theorem scope_j0 (a : ByteArray) (t : Bool) : ∃ r, Ev (fun k => selecttab_Scope.j0 k a t) r := by
 cases t with
 | true => exact ⟨2, Ev.step (f := fun _ => some 2) (fun k => by simp [selecttab_Scope.j0]) (Ev.now _)⟩
 | false =>
  by_cases h4 : (a.size : Int) = 4
  ·exact ⟨14, Ev.step (f := fun _ => some 14) (fun k => by simp only [selecttab_Scope.j0]; rw [if_neg (by decide), if_pos h4]) (Ev.now _)⟩
  ·by_cases h16 : (a.size : Int) = 16
   ·by_cases hb : a.toList = ([0, 0, 0, 0, 0, 0, 0, 0, 0, 0, 0, 0, 0, 0, 0, 1] : List UInt8)
    ·obtain ⟨r, hr⟩ := scope_j1 a (by omega) true
     exact ⟨r, Ev.step (fun k => by simp only [selecttab_Scope.j0]; rw [if_neg (by decide), if_neg h4, if_pos h16, if_pos hb]) hr⟩
    ·by_cases h254 : bt a 0 = 254
     ·obtain ⟨r, hr⟩ := scope_j1 a (by omega) ((Go.bits .and .u8 (bt a 1) 192) == 128)
      exact ⟨r, Ev.step (fun k => by simp only [selecttab_Scope.j0]; rw [if_neg (by decide), if_neg h4, if_pos h16, if_neg hb, if_pos (by omega), if_pos h254, if_pos (by omega)]) hr⟩
     ·obtain ⟨r, hr⟩ := scope_j1 a (by omega) false
      exact ⟨r, Ev.step (fun k => by simp only [selecttab_Scope.j0]; rw [if_neg (by decide), if_neg h4, if_pos h16, if_neg hb, if_pos (by omega), if_neg h254]) hr⟩
   ·exact ⟨0, Ev.step (f := fun _ => some 0) (fun k => by simp only [selecttab_Scope.j0]; rw [if_neg (by decide), if_neg h4, if_neg h16]) (Ev.now _)⟩
theorem scope_some (a : ByteArray) : ∃ r, Ev (fun k => selecttab_Scope.f k a) r := by
 by_cases h4 : (a.size : Int) = 4
 ·by_cases h127 : bt a 0 = 127
  ·obtain ⟨r, hr⟩ := scope_j0 a true
   exact ⟨r, Ev.congr (fun k => by unfold selecttab_Scope.f; rw [if_pos h4, if_pos (by omega), if_pos h127]) hr⟩
  ·by_cases h169 : bt a 0 = 169
   ·obtain ⟨r, hr⟩ := scope_j0 a ((bt a 1) == 254)
    exact ⟨r, Ev.congr (fun k => by unfold selecttab_Scope.f; rw [if_pos h4, if_pos (by omega), if_neg h127, if_pos h169, if_pos (by omega)]) hr⟩
   ·obtain ⟨r, hr⟩ := scope_j0 a false
    exact ⟨r, Ev.congr (fun k => by unfold selecttab_Scope.f; rw [if_pos h4, if_pos (by omega), if_neg h127, if_neg h169]) hr⟩
 ·obtain ⟨r, hr⟩ := scope_j0 a false
  exact ⟨r, Ev.congr (fun k => by unfold selecttab_Scope.f; rw [if_neg h4]) hr⟩
theorem worse_some (b : Bool) : order_worse.f b = some (if b = true then 1 else 0) := by
 unfold order_worse.f
 split <;> rfl
theorem keys_some (R : List S52) (O : List ByteArray) (hn : R.length ≤ 4611686018427387904) (p q : ByteArray) : ∃ r, Ev (fun k => order_Keys.f k R O p q) r := by
 obtain ⟨r1, e1⟩ := row_some R O hn p
 obtain ⟨r2, e2⟩ := row_some R O hn q
 obtain ⟨s1, e3⟩ := scope_some p
 obtain ⟨s2, e4⟩ := scope_some q
 obtain ⟨c, e5⟩ := common_some p q
 obtain ⟨K1, h1⟩ := e1
 obtain ⟨K2, h2⟩ := e2
 obtain ⟨K3, h3⟩ := e3
 obtain ⟨K4, h4⟩ := e4
 obtain ⟨K5, h5⟩ := e5
 by_cases hq : q.toList = ([] : List UInt8)
 ·refine ⟨(if (q.toList == ([] : List UInt8)) = true then 1 else 0, if true = true then 1 else 0, if true = true then 1 else 0, wrap64 (-r1.2), s1, wrap64 (-c)), K1 + K2 + K3 + K4 + K5, fun k hk => ?_⟩
  show order_Keys.f k R O p q = _
  unfold order_Keys.f
  rw [show selecttab_Row.f k R O p = some r1 from h1 k (by omega), show selecttab_Row.f k R O q = some r2 from h2 k (by omega), show selecttab_Scope.f k p = some s1 from h3 k (by omega), show addr_Common.f k p q = some c from h5 k (by omega)]
  simp only [Option.bind_some, worse_some]
  rw [if_pos hq]
 ·refine ⟨(if (q.toList == ([] : List UInt8)) = true then 1 else 0, if (s1 != s2) = true then 1 else 0, if (r1.1 != r2.1) = true then 1 else 0, wrap64 (-r1.2), s1, wrap64 (-c)), K1 + K2 + K3 + K4 + K5, fun k hk => ?_⟩
  show order_Keys.f k R O p q = _
  unfold order_Keys.f
  rw [show selecttab_Row.f k R O p = some r1 from h1 k (by omega), show selecttab_Row.f k R O q = some r2 from h2 k (by omega), show selecttab_Scope.f k p = some s1 from h3 k (by omega), show selecttab_Scope.f k q = some s2 from h4 k (by omega), show addr_Common.f k p q = some c from h5 k (by omega)]
  simp only [Option.bind_some, worse_some]
  rw [if_neg hq]
end Go.Proofs.Ytleimaahdjljoaa.All
end
section
set_option linter.unusedVariables false
set_option linter.unusedSimpArgs false
namespace Go.Proofs.Ytleimaahdjljoaa.All
open Go.Proofs Go.Sort
def cmpL : List Int → List Int → Int
 | x :: xs, y :: ys => if ci x y = 0 then cmpL xs ys else ci x y
 | _, _ => 0
theorem cmp6_eq (a b : S35) : cmp6 a b = cmpL (six a) (six b) := by
 simp only [cmp6, six, cmpL]
 repeat (first | rfl | split)
theorem ci_lt (x y : Int) : ci x y < 0 ↔ x < y := by unfold ci; split <;> (try split) <;> omega
theorem ci_zero (x y : Int) : ci x y = 0 ↔ x = y := by unfold ci; split <;> (try split) <;> omega
theorem cmpL_refl : ∀ l : List Int, cmpL l l = 0
 | [] => rfl
 | x :: xs => by
  simp only [cmpL]
  rw [if_pos ((ci_zero x x).2 rfl)]
  exact cmpL_refl xs
theorem cmpL_le : ∀ (a b c : List Int), a.length = b.length → b.length = c.length → ¬ cmpL b a < 0 → ¬ cmpL c b < 0 → ¬ cmpL c a < 0
 | [], [], [], _, _, _, _ => by simp [cmpL]
 | x :: xs, y :: ys, z :: zs, h1, h2, h3, h4 => by
  simp only [cmpL] at h3 h4 ⊢
  have hi := cmpL_le xs ys zs (by simpa using h1) (by simpa using h2)
  by_cases e1 : ci y x = 0
  ·have f1 := (ci_zero y x).1 e1
   rw [if_pos e1] at h3
   by_cases e2 : ci z y = 0
   ·have f2 := (ci_zero z y).1 e2
    rw [if_pos e2] at h4
    rw [if_pos ((ci_zero z x).2 (by omega))]
    exact hi h3 h4
   ·rw [if_neg e2] at h4
    have f2 := (not_congr (ci_lt z y)).1 h4
    have g2 := (not_congr (ci_zero z y)).1 e2
    rw [if_neg ((not_congr (ci_zero z x)).2 (by omega))]
    exact (not_congr (ci_lt z x)).2 (by omega)
  ·rw [if_neg e1] at h3
   have f1 := (not_congr (ci_lt y x)).1 h3
   have g1 := (not_congr (ci_zero y x)).1 e1
   have f2 : ¬ z < y := by
    by_cases e2 : ci z y = 0
    ·have := (ci_zero z y).1 e2; omega
    ·rw [if_neg e2] at h4; exact (not_congr (ci_lt z y)).1 h4
   rw [if_neg ((not_congr (ci_zero z x)).2 (by omega))]
   exact (not_congr (ci_lt z x)).2 (by omega)
theorem cmpL_trans : ∀ (a b c : List Int), a.length = b.length → b.length = c.length → cmpL a b < 0 → cmpL b c < 0 → cmpL a c < 0
 | [], [], [], _, _, h, _ => by simp [cmpL] at h
 | x :: xs, y :: ys, z :: zs, h1, h2, h3, h4 => by
  simp only [cmpL] at h3 h4 ⊢
  have hi := cmpL_trans xs ys zs (by simpa using h1) (by simpa using h2)
  by_cases e1 : ci x y = 0
  ·have f1 := (ci_zero x y).1 e1
   rw [if_pos e1] at h3
   by_cases e2 : ci y z = 0
   ·have f2 := (ci_zero y z).1 e2
    rw [if_pos e2] at h4
    rw [if_pos ((ci_zero x z).2 (by omega))]
    exact hi h3 h4
   ·rw [if_neg e2] at h4
    have f2 := (ci_lt y z).1 h4
    rw [if_neg ((not_congr (ci_zero x z)).2 (by omega))]
    exact (ci_lt x z).2 (by omega)
  ·rw [if_neg e1] at h3
   have f1 := (ci_lt x y).1 h3
   have f2 : ¬ z < y := by
    by_cases e2 : ci y z = 0
    ·have := (ci_zero y z).1 e2; omega
    ·rw [if_neg e2] at h4; have := (ci_lt y z).1 h4; omega
   rw [if_neg ((not_congr (ci_zero x z)).2 (by omega))]
   exact (ci_lt x z).2 (by omega)
theorem swo : SWO (ltOf cmpK) where
 irrefl x := by simp [ltOf, cmpK, cmp6_eq, cmpL_refl]
 trans x y z h1 h2 := by
  simp only [ltOf, cmpK, cmp6_eq, decide_eq_true_eq] at h1 h2 ⊢
  exact cmpL_trans (six x.f1) (six y.f1) (six z.f1) rfl rfl h1 h2
 ntrans x y z h1 h2 := by
  simp only [ltOf, cmpK, cmp6_eq, decide_eq_false_iff_not] at h1 h2 ⊢
  exact cmpL_le (six z.f1) (six y.f1) (six x.f1) rfl rfl h2 h1
def isort (l : List S59) : List S59 := insertionS l 0 l.length
theorem isort_length (l : List S59) : (isort l).length = l.length := by
 unfold isort
 rw [insertionS_eq, Array.length_toList, size_insertionSort]
 simp
theorem isort_perm (l : List S59) : (isort l).Perm l := by
 unfold isort
 rw [insertionS_eq]
 have h := (insertionSort_holds (lt := ltOf cmpK) swo l.toArray 0 l.length (Nat.zero_le _) (by simp)).1
 have h2 := h.2.2
 have e1 : (Sort.insertionSort (ltOf cmpK) l.toArray 0 l.length).extract 0 l.length = Sort.insertionSort (ltOf cmpK) l.toArray 0 l.length := Array.extract_eq_self_of_le (by rw [h.1]; simp)
 have e2 : l.toArray.extract 0 l.length = l.toArray := Array.extract_eq_self_of_le (by simp)
 rw [e1, e2] at h2
 simpa using h2
theorem isort_sorted (l : List S59) (i j : Nat) (hij : i < j) (hj : j < l.length) : ltOf cmpK (isort l).toArray[j]! (isort l).toArray[i]! = false := by
 unfold isort
 rw [insertionS_eq]
 have h := (insertionSort_holds (lt := ltOf cmpK) swo l.toArray 0 l.length (Nat.zero_le _) (by simp)).2
 have := h i j (Nat.zero_le _) hij hj
 simpa using this
theorem inner_id (d : Array S59) (i : Nat) (h : i = 0 ∨ ltOf cmpK d[i]! d[i - 1]! = false) : Sort.insInner (ltOf cmpK) 0 i d = d := by
 cases i with
 | zero => rfl
 | succ j =>
  unfold Sort.insInner
  rcases h with h | h
  ·omega
  ·rw [Nat.add_sub_cancel] at h
   simp [h]
theorem insS_id (d : Array S59) : ∀ (n i : Nat), 0 < i → (∀ j, i ≤ j → j < i + n → ltOf cmpK d[j]! d[j - 1]! = false) → insS 0 n i d = d
 | 0, i, _, _ => rfl
 | n + 1, i, hi, h => by
  show insS 0 n (i + 1) (Sort.insInner (ltOf cmpK) 0 i d) = d
  rw [inner_id d i (.inr (h i (Nat.le_refl _) (by omega)))]
  exact insS_id d n (i + 1) (by omega) (fun j h1 h2 => h j (by omega) (by omega))
theorem isort_twice (l : List S59) : isort (isort l) = isort l := by
 have hl := isort_length l
 show insertionS (isort l) 0 (isort l).length = isort l
 unfold insertionS
 rw [insS_id _ _ _ (by omega)]
 intro j h1 h2
 exact isort_sorted l (j - 1) j (by omega) (by omega)
theorem insertionS_none (l : List S59) (a : Nat) : insertionS l a a = l := by
 unfold insertionS
 rw [show a - (a + 1) = 0 by omega]
 simp [insS]
end Go.Proofs.Ytleimaahdjljoaa.All
end
section
set_option linter.unusedVariables false
set_option linter.unusedSimpArgs false
namespace Go.Proofs.Ytleimaahdjljoaa.All
open Go.RowKit Go.Proofs.YtleimaahdjljoaaW.PrintWords Go.Proofs.YtleimaahdjljoaaW.PrintLast Go.Proofs.YtleimaahdjljoaaW.PrintMore
theorem ins_some (l : List S59) (a b : Nat) (hab : a ≤ b) (hb : b ≤ l.length) (hl : l.length ≤ 20) : order_keyed_53.f l (a : Int) (b : Int) 26 = some (insertionS l a b) := by
 unfold order_keyed_53.f
 rw [if_pos ⟨rfl, by omega, by omega, by omega, by omega⟩, Int.toNat_natCast, Int.toNat_natCast]
theorem stable_l1 (l : List S59) (n : Nat) (hn : n ≤ 20) : Ev (fun k => order_keyed_43.l1 k l (n : Int) 26 20) l :=
 Ev.step (f := fun _ => some l) (fun k => by simp only [order_keyed_43.l1]; rw [if_neg (by omega)]) (Ev.now _)
theorem stable_some (l : List S59) (hl : l.length ≤ 20) : Ev (fun k => order_keyed_25.f k l 26) (isort l) := by
 unfold order_keyed_25.f
 refine Ev.bind (a := isort l) ?_ (Ev.now _)
 unfold order_keyed_43.f
 by_cases h20 : l.length = 20
 ·have e1 : order_keyed_53.f l 0 20 26 = some (isort l) := by
   have := ins_some l 0 20 (by omega) (by omega) hl
   unfold isort
   rw [h20]
   exact this
  have e2 : order_keyed_53.f (isort l) 20 20 26 = some (isort l) := by
   have := ins_some (isort l) 20 20 (by omega) (by rw [isort_length]; omega) (by rw [isort_length]; omega)
   rw [insertionS_none] at this
   exact this
  rw [h20]
  refine Ev.step (f := fun k => order_keyed_43.l0 k (isort l) ((20 : Nat) : Int) 26 20 20 40) (fun k => ?_) ?_
  ·simp only [order_keyed_43.l0]
   rw [if_pos (by omega), e1, show wrap64 ((20 : Int) + 20) = 40 by unfold wrap64; omega]
   rfl
  ·refine Ev.step (f := fun k => order_keyed_43.l1 k (isort l) ((20 : Nat) : Int) 26 20) (fun k => ?_) (stable_l1 _ _ (by omega))
   simp only [order_keyed_43.l0]
   rw [if_neg (by omega)]
   rw [show (((20 : Nat) : Int)) = 20 from rfl, e2]
   rfl
 ·have e1 : order_keyed_53.f l 0 (l.length : Int) 26 = some (isort l) := ins_some l 0 l.length (by omega) (by omega) hl
  refine Ev.step (f := fun k => order_keyed_43.l1 k (isort l) (l.length : Int) 26 20) (fun k => ?_) (stable_l1 _ _ hl)
  simp only [order_keyed_43.l0]
  rw [if_neg (by omega), e1]
  rfl
theorem collect (M : List S59) (hM : M.length ≤ 20) : ∀ (d i : Nat) (acc : List S34), M.length - i = d → acc.length ≤ i → i ≤ M.length → Ev (fun k => order_Sort.l1 k acc M (M.length : Int) (i : Int)) (acc ++ (M.drop i).map (·.f0))
 | 0, i, acc, h, ha, hi => by
  refine Ev.step (f := fun _ => some acc) (fun k => ?_) ?_
  ·simp only [order_Sort.l1]; rw [if_neg (by omega)]
  ·rw [List.drop_eq_nil_of_le (by omega)]
   simpa using Ev.now acc
 | d + 1, i, acc, h, ha, hi => by
  have hlt : i < M.length := by omega
  have hr := collect M hM d (i + 1) (acc ++ [(rd_T59 M i).f0]) (by omega) (by simp; omega) (by omega)
  have e : acc ++ [(rd_T59 M i).f0] ++ (M.drop (i + 1)).map (·.f0) = acc ++ (M.drop i).map (·.f0) := by
   have hp : rd_T59 M i = M[i] := by simp [rd_T59, List.getD_eq_getElem?_getD, List.getElem?_eq_getElem hlt]
   rw [List.drop_eq_getElem_cons hlt, List.map_cons, hp, List.append_assoc]
   rfl
  rw [e] at hr
  refine Ev.step (fun k => ?_) hr
  simp only [order_Sort.l1]
  rw [if_pos (by omega), if_pos (by omega), if_pos (by omega), if_pos (by omega), w_succ i _ hlt (by omega)]
theorem sort_l0 (R : List S52) (O : List ByteArray) (kd : S34 → S59) (h0 : ∀ p, (kd p).f0 = p) (hk : ∀ p, Ev (fun k => order_Keys.f k R O p.f0 p.f1) ((kd p).f1.f0, (kd p).f1.f1, (kd p).f1.f2, (kd p).f1.f3, (kd p).f1.f4, (kd p).f1.f5))
  (L : List S34) (hL : L.length ≤ 20) : ∀ (d i : Nat) (acc : List S59), L.length - i = d → i ≤ L.length → acc.length = i → Ev (fun k => order_Sort.l0 k acc L (L.length : Int) (i : Int) R O) ((isort (acc ++ (L.drop i).map kd)).map (·.f0))
 | 0, i, acc, h, hi, ha => by
  rw [List.drop_eq_nil_of_le (by omega), List.map_nil, List.append_nil]
  refine Ev.step (f := fun k => (order_keyed_25.f k acc 26).bind fun t => order_Sort.l1 k ([] : List S34) t (acc.length : Int) 0) (fun k => ?_) (Ev.bind (stable_some acc (by omega)) ?_)
  ·simp only [order_Sort.l0]
   rw [if_neg (by omega)]
  ·have := collect (isort acc) (by rw [isort_length]; omega) _ 0 [] rfl (Nat.le_refl _) (Nat.zero_le _)
   rw [isort_length] at this
   simpa using this
 | d + 1, i, acc, h, hi, ha => by
  have hlt : i < L.length := by omega
  have hp : rd_T34 L i = L[i] := by simp [rd_T34, List.getD_eq_getElem?_getD, List.getElem?_eq_getElem hlt]
  have hr := sort_l0 R O kd h0 hk L hL d (i + 1) (acc ++ [kd L[i]]) (by omega) (by omega) (by simp; omega)
  have e : acc ++ [kd L[i]] ++ (L.drop (i + 1)).map kd = acc ++ (L.drop i).map kd := by
   rw [List.drop_eq_getElem_cons hlt, List.map_cons, List.append_assoc]
   rfl
  rw [e] at hr
  refine Ev.step (f := fun k => (order_Keys.f k R O (L[i]).f0 (L[i]).f1).bind fun bt => order_Sort.l0 k (acc ++ [(⟨(⟨(L[i]).f0, (L[i]).f1⟩ : S34), (⟨bt.1, bt.2.1, bt.2.2.1, bt.2.2.2.1, bt.2.2.2.2.1, bt.2.2.2.2.2⟩ : S35)⟩ : S59)]) L (L.length : Int) ((i + 1 : Nat) : Int) R O) (fun k => ?_) (Ev.bind (hk L[i]) ?_)
  ·simp only [order_Sort.l0]
   rw [if_pos (by omega), if_pos (by omega), if_pos (by omega), hp, w_succ i _ hlt (by omega)]
   congr 1
   funext bt
   rw [if_pos (by omega)]
  ·have ek : (⟨(⟨(L[i]).f0, (L[i]).f1⟩ : S34), (⟨(kd L[i]).f1.f0, (kd L[i]).f1.f1, (kd L[i]).f1.f2, (kd L[i]).f1.f3, (kd L[i]).f1.f4, (kd L[i]).f1.f5⟩ : S35)⟩ : S59) = kd L[i] := by
    have := h0 L[i]
    generalize kd L[i] = x at this ⊢
    rw [← this]
   simp only
   rw [ek]
   exact hr
theorem sort_some (R : List S52) (O : List ByteArray) (hn : R.length ≤ 4611686018427387904) : ∃ kd : S34 → S59, (∀ p, (kd p).f0 = p) ∧ (∀ p, Ev (fun k => order_Keys.f k R O p.f0 p.f1) ((kd p).f1.f0, (kd p).f1.f1, (kd p).f1.f2, (kd p).f1.f3, (kd p).f1.f4, (kd p).f1.f5)) ∧
  ∀ L : List S34, L.length ≤ 20 → Ev (fun k => order_Sort.f k R O L) ((isort (L.map kd)).map (·.f0)) := by
 have hk : ∀ p : S34, ∃ x : S59, x.f0 = p ∧ Ev (fun k => order_Keys.f k R O p.f0 p.f1) (x.f1.f0, x.f1.f1, x.f1.f2, x.f1.f3, x.f1.f4, x.f1.f5) := by
  intro p
  obtain ⟨⟨r0, r1, r2, r3, r4, r5⟩, hr⟩ := keys_some R O hn p.f0 p.f1
  exact ⟨⟨p, ⟨r0, r1, r2, r3, r4, r5⟩⟩, rfl, hr⟩
 refine ⟨fun p => Classical.choose (hk p), fun p => (Classical.choose_spec (hk p)).1, fun p => (Classical.choose_spec (hk p)).2, fun L hL => ?_⟩
 exact sort_l0 R O _ (fun p => (Classical.choose_spec (hk p)).1) (fun p => (Classical.choose_spec (hk p)).2) L hL _ 0 [] rfl (Nat.zero_le _) rfl
theorem sort_twice (kd : S34 → S59) (h0 : ∀ p, (kd p).f0 = p) (L : List S34) : (isort (((isort (L.map kd)).map (·.f0)).map kd)).map (·.f0) = (isort (L.map kd)).map (·.f0) := by
 have hm : ((isort (L.map kd)).map (·.f0)).map kd = isort (L.map kd) := by
  rw [List.map_map]
  refine (List.map_congr_left (g := id) (fun x hx => ?_)).trans (List.map_id _)
  have := (isort_perm (L.map kd)).mem_iff.1 hx
  obtain ⟨p, _, rfl⟩ := List.mem_map.1 this
  simp [h0]
 rw [hm, isort_twice]
end Go.Proofs.Ytleimaahdjljoaa.All
end
section
set_option linter.unusedVariables false
set_option linter.unusedSimpArgs false
set_option maxRecDepth 100000
namespace Go.Proofs.Ytleimaahdjljoaa.All
open Go.RowKit Go.Proofs.YtleimaahdjljoaaW.PrintWords Go.Proofs.YtleimaahdjljoaaW.PrintLast Go.Proofs.YtleimaahdjljoaaW.PrintMore
theorem begun_true : Ev (fun k => conciergelaw20_begun.f k) true :=
 Ev.of (k := 100) (fun k => conciergelaw20_begun.mono k) (by decide +kernel)
theorem rows_some : ∃ R, R.length = 5 ∧ Ev (fun k => conciergeref15_Rows.f k) R := by
 have h : ((conciergeref15_Rows.f 60).map (·.length)) = some 5 := by decide +kernel
 cases hr : conciergeref15_Rows.f 60 with
 | none => rw [hr] at h; exact absurd h (by simp)
 | some R =>
  rw [hr] at h
  exact ⟨R, by simpa using h, Ev.of (fun k => conciergeref15_Rows.mono k) hr⟩
theorem cut_text (a : ByteArray) : ∃ r, conciergelaw2_Cut.f a 20 = some r := by
 unfold conciergelaw2_Cut.f
 by_cases h : (a.size : Int) > 20
 ·rw [if_pos h, if_pos (by omega), if_pos (by omega)]; exact ⟨_, rfl⟩
 ·rw [if_neg h]; exact ⟨_, rfl⟩
theorem cut_l (L : List S34) : ∀ (d i : Nat) (acc : List S34), 20 - i = d → acc.length = i → i ≤ 20 → ∃ r, r.length ≤ 20 ∧ Ev (fun k => conciergelaw20_Cut.l0 k L acc (i : Int)) r
 | d, i, acc, h, ha, hi => by
  by_cases h1 : i < L.length
  ·by_cases h2 : i < 20
   ·match d, h with
    | 0, h => omega
    | d + 1, h =>
     obtain ⟨t0, e0⟩ := cut_text (rd_T34 L (i : Int)).f0
     obtain ⟨t1, e1⟩ := cut_text (rd_T34 L (i : Int)).f1
     obtain ⟨r, hr, hE⟩ := cut_l L d (i + 1) (acc ++ [⟨t0, t1⟩]) (by omega) (by simp [ha]) (by omega)
     refine ⟨r, hr, Ev.step (f := fun k => conciergelaw20_Cut.j1 k L acc (i : Int) true) (fun k => ?_) (Ev.step (fun k => ?_) hE)⟩
     ·simp only [conciergelaw20_Cut.l0]
      rw [if_pos (by omega), decide_eq_true (by omega)]
     ·simp only [conciergelaw20_Cut.j1, if_pos]
      rw [if_pos (by omega), if_pos (by omega), e0, e1]
      simp only [Option.bind]
      rw [if_pos (by omega), w_succ i 21 (by omega) (by omega)]
   ·refine ⟨acc, by omega, Ev.step (f := fun k => conciergelaw20_Cut.j1 k L acc (i : Int) false) (fun k => ?_) (Ev.step (f := fun _ => some acc) (fun k => ?_) (Ev.now _))⟩
    ·simp only [conciergelaw20_Cut.l0]
     rw [if_pos (by omega), decide_eq_false (by omega)]
    ·simp [conciergelaw20_Cut.j1]
  ·refine ⟨acc, by omega, Ev.step (f := fun k => conciergelaw20_Cut.j1 k L acc (i : Int) false) (fun k => ?_) (Ev.step (f := fun _ => some acc) (fun k => ?_) (Ev.now _))⟩
   ·simp only [conciergelaw20_Cut.l0]
    rw [if_neg (by omega)]
   ·simp [conciergelaw20_Cut.j1]
theorem same_l (M : List S34) (hM : M.length ≤ 20) : ∀ (d i : Nat), M.length - i = d → i ≤ M.length → Ev (fun k => conciergelaw20_OrderTwice.l0 k true M M (i : Int)) true
 | 0, i, h, hi => Ev.step (f := fun _ => some true) (fun k => by simp only [conciergelaw20_OrderTwice.l0]; rw [if_neg (by omega)]) (Ev.now _)
 | d + 1, i, h, hi => by
  refine Ev.step (fun k => ?_) (same_l M hM d (i + 1) (by omega) (by omega))
  simp only [conciergelaw20_OrderTwice.l0]
  rw [if_pos (by omega), if_pos (by omega), if_pos (by omega), if_pos trivial, if_pos trivial, w_succ i M.length (by omega) (by omega)]
theorem twice_true (L : List S34) : ∃ k, conciergelaw20_OrderTwice.f k L = some true := by
 obtain ⟨R, hR, hRe⟩ := rows_some
 obtain ⟨kd, h0, -, hS⟩ := sort_some R [] (by omega)
 obtain ⟨C, hC, hCe⟩ := cut_l L 20 0 [] rfl rfl (by omega)
 have s1 := hS C hC
 have hl : ((isort (C.map kd)).map (·.f0)).length ≤ 20 := by
  rw [List.length_map, (isort_perm _).length_eq, List.length_map]; exact hC
 have s2 := hS _ hl
 rw [sort_twice kd h0] at s2
 generalize hM : (isort (C.map kd)).map (·.f0) = M at s1 s2 hl
 refine Ev.rounds ?_
 unfold conciergelaw20_OrderTwice.f
 refine Ev.bind begun_true (Ev.congr (fun k => if_pos rfl) ?_)
 refine Ev.bind hRe ?_
 refine Ev.bind (a := C) hCe ?_
 refine Ev.bind s1 (Ev.bind s2 ?_)
 refine Ev.congr (fun k => if_pos rfl) ?_
 exact same_l M hl M.length 0 (by omega) (by omega)
end Go.Proofs.Ytleimaahdjljoaa.All
end
section
set_option linter.unusedVariables false
namespace Go.Proofs.Ytleimaahdjljoaa.All
open Go.RowKit Go.ChangeShapes Go.WideShapes Go.Deep Go.Proofs.YtleimaahdjljoaaW.PrintWords
section
variable {H : Type} {enc : TypeId × Value → H} {P : Program} {w : World} {base : Nat} {spare : Nat → Bool} {held : Bool}
theorem open_fields {t e : TypeId} {fs : Array Field} {fuel : Nat} {cs : List Value} {x : DataW H × List MemPlace} (ht : P.underlying t = some (.slice e)) (he : P.underlying e = some (.struct fs))
  (hone : oneCellFields P fs = true) (hC : P.cellsOf e = fs.size) (h : DataW.trod enc P w base spare held fuel t cs = some x) :
  cs = [.slice none 0 0] ∨
  ∃ (a : Addr) (len cap m : Nat), cs = [.slice (some a) len cap] ∧ len ≤ cap ∧ cap ≤ maxLen ∧ m = (if spare a.block then cap else len) ∧
   ∀ i, i < m → ∃ n : Nat, ∀ (j : Nat) (f : Field), fs[j]? = some f → ∃ (v : Value) (y : DataW H × List MemPlace), w.cell? (a.add (i * fs.size + j)) = some v ∧ DataW.trod enc P w base spare held n f.type [v] = some y := by
 rcases open_slice ht h with h0 | ⟨a, len, cap, m, n, D, Pl, hcs, hb, hl, hm, hmm, hx, hi⟩
 ·exact .inl h0.1
 ·refine .inr ⟨a, len, cap, m, hcs, hl, hm, hmm, fun i him => ?_⟩
  obtain ⟨cs', hc, ht'⟩ := hi i him
  rw [hC] at hc
  obtain ⟨ys, n', hn', hy, hlen, hyl, hf⟩ := DataW.trod_struct he ht'
  obtain ⟨_, hcl, hat⟩ := World.cells?_some hc
  refine ⟨n', fun j f hj => ?_⟩
  obtain ⟨ho, hk⟩ := hone_of hone j f hj
  have hjl : j < fs.size := (Array.getElem?_eq_some_iff.1 hj).1
  have hcell := hat j hjl
  have hv : cs'[j]? = some (cs'[j]'(by omega)) := List.getElem?_eq_getElem (by omega)
  have h1 := hf j f hj
  rw [ho, hk] at h1
  have hone' : (cs'.drop j).take 1 = [cs'[j]'(by omega)] := by
   rw [List.drop_eq_getElem_cons (by omega)]
   rfl
  rw [hone'] at h1
  have hys : ys[j]? = some (ys[j]'(by omega)) := List.getElem?_eq_getElem (by omega)
  refine ⟨_, _, ?_, h1.trans hys⟩
  rw [← Go.Deep.add_add, hcell, hv]
end
theorem pairs_of {H : Type} {enc : TypeId × Value → H} {W : World} {base : Nat} {held : Bool} {A : Option Addr} {len cap fuel : Nat} {x : DataW H × List MemPlace}
  (h : DataW.trod enc Try.prog W base (fun _ => true) held fuel 23 [.slice A len cap] = some x) : ∃ l : List S34, l.length = len ∧ len ≤ cap ∧ Kd.C k34 W A l.length l := by
 rcases open_fields Try.underlying23 Try.underlying34 (by kernel_rfl) (by kernel_rfl) h with h0 | ⟨a, len', cap', m, hcs, hl, hm, hmm, hi⟩
 ·simp only [List.cons.injEq, Value.slice.injEq, and_true] at h0
  obtain ⟨rfl, rfl, rfl⟩ := h0
  exact ⟨[], rfl, Nat.le_refl _, Kd.C_nil _ _⟩
 ·simp only [List.cons.injEq, Value.slice.injEq, and_true] at hcs
  obtain ⟨rfl, rfl, rfl⟩ := hcs
  have hs : ∀ i, i < len → ∃ p : S34, W.cell? (a.add (i * 2)) = some (.string p.f0) ∧ W.cell? (a.add (i * 2 + 1)) = some (.string p.f1) := by
   intro i hlt
   obtain ⟨n, hf⟩ := hi i (by rw [hmm]; simp; omega)
   obtain ⟨v0, y0, c0, t0⟩ := hf 0 _ rfl
   obtain ⟨v1, y1, c1, t1⟩ := hf 1 _ rfl
   obtain ⟨s0, e0, _, _⟩ := DataW.trod_string Try.underlying9 t0
   obtain ⟨s1, e1, _, _⟩ := DataW.trod_string Try.underlying9 t1
   simp only [List.cons.injEq, and_true] at e0 e1
   subst e0; subst e1
   exact ⟨⟨s0, s1⟩, c0, c1⟩
  let f : Nat → S34 := fun i => if hlt : i < len then Classical.choose (hs i hlt) else z34
  refine ⟨(List.range len).map f, by simp, hl, by simp, by simp only [maxLen] at hm; simp; omega, fun hn => ⟨a, rfl, fun j p hj => ?_⟩⟩
  have hlt : j < len := by
   have := (List.getElem?_eq_some_iff.1 hj).1
   simpa using this
  have hp : p = f j := by
   have := (List.getElem?_eq_some_iff.1 hj).2
   simpa using this.symm
  have hf : f j = Classical.choose (hs j hlt) := dif_pos hlt
  have hspec := Classical.choose_spec (hs j hlt)
  rw [← hf, ← hp] at hspec
  refine ⟨[.string p.f0, .string p.f1], rfl, k34_mk W p, fun i u hu => ?_⟩
  match i, hu with
  | 0, hu =>
   have : u = .string p.f0 := by simpa using hu.symm
   rw [this]; exact hspec.1
  | 1, hu =>
   have : u = .string p.f1 := by simpa using hu.symm
   rw [this]; exact hspec.2
  | n + 2, hu => simp at hu
end Go.Proofs.Ytleimaahdjljoaa.All
end
