/- OrderAddrs: addresses are sorted with the own ones that go with them (text 7 of 10) -/
import Derived.Test.YtlfhahnceeoegaaSa2
import Derived.Test.YtlfhahnceeoegaaSa6
namespace Go.Proofs.YtlfhahnceeoegaaW.PrintLast
end Go.Proofs.YtlfhahnceeoegaaW.PrintLast
namespace Go.Proofs.YtlfhahnceeoegaaW.PrintMore
end Go.Proofs.YtlfhahnceeoegaaW.PrintMore
namespace Go.Proofs.YtlfhahnceeoegaaW.PrintWords
end Go.Proofs.YtlfhahnceeoegaaW.PrintWords
section
namespace Go.Proofs.Ytlfhahnceeoegaa.All
open Go.RowKit Go.Proofs.YtlfhahnceeoegaaW.PrintWords Go.Proofs.YtlfhahnceeoegaaW.PrintLast Go.Proofs.YtlfhahnceeoegaaW.PrintMore
set_option linter.unusedVariables false
set_option linter.unusedSimpArgs false
mutual
def conciergeref15_Keys.j0 : Nat → Int → Int → Int → ByteArray → ByteArray → Int → Int → Int → Int → Int → Int → Option (Int × Int × Int × Int × Int × Int)
 | 0, _, _, _, _, _, _, _, _, _, _, _ => none
 | k + 1, x6, x7, x8, x369000, x369001, x371000, x371001, x371002, x371003, x371004, x371005 => if x369001.toList = ([] : List UInt8) then (conciergeref15_Keys.j1 k x6 x7 x8 true x369000 x369001 x371000 x371001 x371002 x371003 x371004 x371005) else ((conciergeref15_Scope.f x369000).bind fun t375 => ((conciergeref15_Scope.f x369001).bind fun t376 => (conciergeref15_Keys.j1 k x6 x7 x8 (t375 != t376) x369000 x369001 x371000 x371001 x371002 x371003 x371004 x371005)))
def conciergeref15_Keys.j1 : Nat → Int → Int → Int → Bool → ByteArray → ByteArray → Int → Int → Int → Int → Int → Int → Option (Int × Int × Int × Int × Int × Int)
 | 0, _, _, _, _, _, _, _, _, _, _, _, _ => none
 | k + 1, x6, x7, x8, x39, x369000, x369001, x371000, x371001, x371002, x371003, x371004, x371005 => if x39 = true then (conciergeref15_Keys.j2 k x6 x7 x8 x369000 x369001 x371000 1 x371002 x371003 x371004 x371005) else (conciergeref15_Keys.j2 k x6 x7 x8 x369000 x369001 x371000 x371001 x371002 x371003 x371004 x371005)
def conciergeref15_Keys.j2 : Nat → Int → Int → Int → ByteArray → ByteArray → Int → Int → Int → Int → Int → Int → Option (Int × Int × Int × Int × Int × Int)
 | 0, _, _, _, _, _, _, _, _, _, _, _ => none
 | k + 1, x6, x7, x8, x369000, x369001, x371000, x371001, x371002, x371003, x371004, x371005 => if x369001.toList = ([] : List UInt8) then (conciergeref15_Keys.j3 k x7 true x369000 x369001 x371000 x371001 x371002 x371003 x371004 x371005) else (conciergeref15_Keys.j3 k x7 (x6 != x8) x369000 x369001 x371000 x371001 x371002 x371003 x371004 x371005)
def conciergeref15_Keys.j3 : Nat → Int → Bool → ByteArray → ByteArray → Int → Int → Int → Int → Int → Int → Option (Int × Int × Int × Int × Int × Int)
 | 0, _, _, _, _, _, _, _, _, _, _ => none
 | k + 1, x7, x48, x369000, x369001, x371000, x371001, x371002, x371003, x371004, x371005 => if x48 = true then ((conciergeref15_Scope.f x369000).bind fun t377 => ((conciergeref2_Common.f k x369000 x369001).bind fun t378 => (some (x371000, x371001, 1, wrap64 (-x7), t377, wrap64 (-t378))))) else ((conciergeref15_Scope.f x369000).bind fun t379 => ((conciergeref2_Common.f k x369000 x369001).bind fun t380 => (some (x371000, x371001, x371002, wrap64 (-x7), t379, wrap64 (-t380)))))
end
def conciergeref15_Keys.f (k : Nat) (l0_0 : List (S52)) (l0_1 : List ByteArray) (a1_0 : ByteArray) (a1_1 : ByteArray) : Option (Int × Int × Int × Int × Int × Int) := (conciergeref15_Row.f k l0_0 l0_1 a1_0).bind fun bt371 => ((conciergeref15_Row.f k l0_0 l0_1 a1_1).bind fun bt373 => (if a1_1.toList = ([] : List UInt8) then (conciergeref15_Keys.j0 k bt371.1 bt371.2 bt373.1 a1_0 a1_1 1 0 0 0 0 0) else (conciergeref15_Keys.j0 k bt371.1 bt371.2 bt373.1 a1_0 a1_1 0 0 0 0 0 0)))
def conciergeref15_Keys.T6 : Bool × List (List Nat × List Nat) := (true, [([], []), ([0], [0]), ([1], [1]), ([2], [2]), ([3], [3]), ([4, 3], [3, 4]), ([5, 3, 3], [3, 5]), ([3], [3]), ([7, 3], [3, 7]), ([8, 6, 3], [3, 8]), ([6, 9, 3], [3, 6, 9]), ([3, 10], [3, 10])])
def conciergeref15_Keys.B6 : List Nat := [0, 1, 3, 7, 15, 31, 63, 15, 143, 511, 1023, 2047]
theorem conciergeref15_Keys.tab6 : rtab .any (opsOf Try.f14 6) = conciergeref15_Keys.T6 := by kernel_rfl
theorem conciergeref15_Keys.bits6 : waitsOk conciergeref15_Keys.T6.2 conciergeref15_Keys.B6 = true := by kernel_rfl
set_option maxHeartbeats 8000000 in
set_option maxRecDepth 100000 in
theorem conciergeref15_Keys.calls (k : Nat) (A0_0 : Option Addr) (c0_0 : Nat) (l0_0 : List (S52)) (A0_1 : Option Addr) (c0_1 : Nat) (l0_1 : List ByteArray) (a1_0 : ByteArray) (a1_1 : ByteArray) (r1 : Int) (r2 : Int) (r3 : Int) (r4 : Int) (r5 : Int) (r6 : Int) (w : World) (hr0_0 : Kd.C k52 w A0_0 l0_0.length l0_0) (hc0_0 : l0_0.length ≤ c0_0) (hr0_1 : Kd.C Kd.string w A0_1 l0_1.length l0_1) (hc0_1 : l0_1.length ≤ c0_1) (h : conciergeref15_Keys.f k l0_0 l0_1 a1_0 a1_1 = some (r1, r2, r3, r4, r5, r6)) :
  Calls Try.prog 14 #[.agg #[.slice A0_0 l0_0.length c0_0, .slice A0_1 l0_1.length c0_1], .agg #[.string a1_0, .string a1_1]] w fun e w' => e = .returned (.agg #[.int .i64 r1, .int .i64 r2, .int .i64 r3, .int .i64 r4, .int .i64 r5, .int .i64 r6]) ∧ Below w.heap.size w w' := by
 have hu28 := Try.underlying28
 have hu34 := Try.underlying34
 have hu35 := Try.underlying35
 have HR0_0 := Aside0.mk hr0_0
 have HC0_0 := Aside0.mk hc0_0
 clear hr0_0 hc0_0
 have HR0_1 := Aside0.mk hr0_1
 have HC0_1 := Aside0.mk hc0_1
 clear hr0_1 hc0_1
 have HB := Aside0.mk (Below.refl w.heap.size w)
 have H : ((conciergeref15_Row.f k l0_0 l0_1 a1_0).bind fun bt371 => ((conciergeref15_Row.f k l0_0 l0_1 a1_1).bind fun bt373 => (if a1_1.toList = ([] : List UInt8) then (conciergeref15_Keys.j0 k bt371.1 bt371.2 bt373.1 a1_0 a1_1 1 0 0 0 0 0) else (conciergeref15_Keys.j0 k bt371.1 bt371.2 bt373.1 a1_0 a1_1 0 0 0 0 0 0)))) = some (r1, r2, r3, r4, r5, r6) := h
 clear h
 replace H := Option.bind_eq_some_iff.mp H
 obtain ⟨⟨t371, t372⟩, A30, H⟩ := H
 have A3 := Aside0.mk A30
 clear A30
 replace H := Option.bind_eq_some_iff.mp H
 obtain ⟨⟨t373, t374⟩, A40, H⟩ := H
 have A4 := Aside0.mk A40
 clear A40
 have HC5 := Aside0.mk H
 clear H
 go_enter Try.func14, Try.ntmps14
 go_upto_if 26 with (first | ((with_reducible refine gate_dst (N := 2) rfl ?_); refine box_event ?hg (N := 2) ?hd (cs := #[.slice A0_0 l0_0.length c0_0, .slice A0_1 l0_1.length c0_1]) (t := 28) ?hr ?_; (case hd => rfl); (case hg => rfl); (case hr => first | (go_simp; done) | (go_simp; rfl)); intro gb367 hg w6 hbox hb; have n0_ := Aside0.mk (below_step (fB0) hb); have n1_ := Aside0.mk (hbox); have n2_ := Aside0.mk ((by rw [hg]; exact (below_size (fB0)) : w.heap.size ≤ gb367)); have n3_ := Aside0.mk ((by rw [hg]; exact (below_size (fB0)) : w.heap.size ≤ gb367)); clear HB; have HB := n0_; have BK367 := n1_; have GW367 := n2_; have GE367 := n3_; clear n0_ n1_ n2_ n3_; clear hb hbox hg) | ((with_reducible refine gate_dst (N := 3) rfl ?_); refine box_event ?hg (N := 3) ?hd (cs := #[.string a1_0, .string a1_1]) (t := 34) ?hr ?_; (case hd => rfl); (case hg => rfl); (case hr => first | (go_simp; done) | (go_simp; rfl)); intro gb368 hg w7 hbox hb; have n0_ := Aside0.mk (blk_below (g := gb367) (o := .cells #[.slice A0_0 l0_0.length c0_0, .slice A0_1 l0_1.length c0_1] 28 (0, 0)) (fA1 BK367) hb); have n1_ := Aside0.mk (below_step (fB1 GE367) hb); have n2_ := Aside0.mk (hbox); have n3_ := Aside0.mk ((by rw [hg]; exact (below_size (fB1 GE367)) : w.heap.size ≤ gb368)); have n4_ := Aside0.mk ((by rw [hg]; exact (below_size (fB1 GE367)) : w.heap.size ≤ gb368)); have n5_ := Aside0.mk ((by rw [hg]; exact Nat.ne_of_lt (blk_lt (g := gb367) (o := .cells #[.slice A0_0 l0_0.length c0_0, .slice A0_1 l0_1.length c0_1] 28 (0, 0)) (fA1 BK367)) : gb367 ≠ gb368)); have n6_ := Aside0.mk ((by rw [hg]; exact Nat.ne_of_gt (blk_lt (g := gb367) (o := .cells #[.slice A0_0 l0_0.length c0_0, .slice A0_1 l0_1.length c0_1] 28 (0, 0)) (fA1 BK367)) : gb368 ≠ gb367)); clear BK367; clear HB; have BK367 := n0_; have HB := n1_; have BK368 := n2_; have GW368 := n3_; have GE368 := n4_; have NB367_368 := n5_; have NB368_367 := n6_; clear n0_ n1_ n2_ n3_ n4_ n5_ n6_; clear hb hbox hg) | ((with_reducible refine gate_dst (N := 4) rfl ?_); refine box_event ?hg (N := 4) ?hd (cs := #[.int .i64 0, .int .i64 0, .int .i64 0, .int .i64 0, .int .i64 0, .int .i64 0]) (t := 35) ?hr ?_; (case hd => rfl); (case hg => rfl); (case hr => first | (go_simp; done) | (go_simp; rfl)); intro gb369 hg w8 hbox hb; have n0_ := Aside0.mk (blk_below (g := gb367) (o := .cells #[.slice A0_0 l0_0.length c0_0, .slice A0_1 l0_1.length c0_1] 28 (0, 0)) (fA1 BK367) hb); have n1_ := Aside0.mk (blk_below (g := gb368) (o := .cells #[.string a1_0, .string a1_1] 34 (0, 0)) (fA1 BK368) hb); have n2_ := Aside0.mk (below_step (fB2 GE367 GE368) hb); have n3_ := Aside0.mk (hbox); have n4_ := Aside0.mk ((by rw [hg]; exact (below_size (fB2 GE367 GE368)) : w.heap.size ≤ gb369)); have n5_ := Aside0.mk ((by rw [hg]; exact (below_size (fB2 GE367 GE368)) : w.heap.size ≤ gb369)); have n6_ := Aside0.mk ((by rw [hg]; exact Nat.ne_of_lt (blk_lt (g := gb367) (o := .cells #[.slice A0_0 l0_0.length c0_0, .slice A0_1 l0_1.length c0_1] 28 (0, 0)) (fA1 BK367)) : gb367 ≠ gb369)); have n7_ := Aside0.mk ((by rw [hg]; exact Nat.ne_of_gt (blk_lt (g := gb367) (o := .cells #[.slice A0_0 l0_0.length c0_0, .slice A0_1 l0_1.length c0_1] 28 (0, 0)) (fA1 BK367)) : gb369 ≠ gb367)); have n8_ := Aside0.mk ((by rw [hg]; exact Nat.ne_of_lt (blk_lt (g := gb368) (o := .cells #[.string a1_0, .string a1_1] 34 (0, 0)) (fA1 BK368)) : gb368 ≠ gb369)); have n9_ := Aside0.mk ((by rw [hg]; exact Nat.ne_of_gt (blk_lt (g := gb368) (o := .cells #[.string a1_0, .string a1_1] 34 (0, 0)) (fA1 BK368)) : gb369 ≠ gb368)); clear BK367; clear BK368; clear HB; have BK367 := n0_; have BK368 := n1_; have HB := n2_; have BK369 := n3_; have GW369 := n4_; have GE369 := n5_; have NB367_369 := n6_; have NB369_367 := n7_; have NB368_369 := n8_; have NB369_368 := n9_; clear n0_ n1_ n2_ n3_ n4_ n5_ n6_ n7_ n8_ n9_; clear hb hbox hg) | ((with_reducible refine gate_dst (N := 5) rfl ?_); refine box_event ?hg (N := 5) ?hd (cs := #[.int .i64 0, .int .i64 0, .int .i64 0, .int .i64 0, .int .i64 0, .int .i64 0]) (t := 35) ?hr ?_; (case hd => rfl); (case hg => rfl); (case hr => first | (go_simp; done) | (go_simp; rfl)); intro gb370 hg w9 hbox hb; have n0_ := Aside0.mk (blk_below (g := gb367) (o := .cells #[.slice A0_0 l0_0.length c0_0, .slice A0_1 l0_1.length c0_1] 28 (0, 0)) (fA1 BK367) hb); have n1_ := Aside0.mk (blk_below (g := gb368) (o := .cells #[.string a1_0, .string a1_1] 34 (0, 0)) (fA1 BK368) hb); have n2_ := Aside0.mk (blk_below (g := gb369) (o := .cells #[.int .i64 0, .int .i64 0, .int .i64 0, .int .i64 0, .int .i64 0, .int .i64 0] 35 (0, 0)) (fA1 BK369) hb); have n3_ := Aside0.mk (below_step (fB3 GE367 GE368 GE369) hb); have n4_ := Aside0.mk (hbox); have n5_ := Aside0.mk ((by rw [hg]; exact (below_size (fB3 GE367 GE368 GE369)) : w.heap.size ≤ gb370)); have n6_ := Aside0.mk ((by rw [hg]; exact (below_size (fB3 GE367 GE368 GE369)) : w.heap.size ≤ gb370)); have n7_ := Aside0.mk ((by rw [hg]; exact Nat.ne_of_lt (blk_lt (g := gb367) (o := .cells #[.slice A0_0 l0_0.length c0_0, .slice A0_1 l0_1.length c0_1] 28 (0, 0)) (fA1 BK367)) : gb367 ≠ gb370)); have n8_ := Aside0.mk ((by rw [hg]; exact Nat.ne_of_gt (blk_lt (g := gb367) (o := .cells #[.slice A0_0 l0_0.length c0_0, .slice A0_1 l0_1.length c0_1] 28 (0, 0)) (fA1 BK367)) : gb370 ≠ gb367)); have n9_ := Aside0.mk ((by rw [hg]; exact Nat.ne_of_lt (blk_lt (g := gb368) (o := .cells #[.string a1_0, .string a1_1] 34 (0, 0)) (fA1 BK368)) : gb368 ≠ gb370)); have n10_ := Aside0.mk ((by rw [hg]; exact Nat.ne_of_gt (blk_lt (g := gb368) (o := .cells #[.string a1_0, .string a1_1] 34 (0, 0)) (fA1 BK368)) : gb370 ≠ gb368)); have n11_ := Aside0.mk ((by rw [hg]; exact Nat.ne_of_lt (blk_lt (g := gb369) (o := .cells #[.int .i64 0, .int .i64 0, .int .i64 0, .int .i64 0, .int .i64 0, .int .i64 0] 35 (0, 0)) (fA1 BK369)) : gb369 ≠ gb370)); have n12_ := Aside0.mk ((by rw [hg]; exact Nat.ne_of_gt (blk_lt (g := gb369) (o := .cells #[.int .i64 0, .int .i64 0, .int .i64 0, .int .i64 0, .int .i64 0, .int .i64 0] 35 (0, 0)) (fA1 BK369)) : gb370 ≠ gb369)); clear BK367; clear BK368; clear BK369; clear HB; have BK367 := n0_; have BK368 := n1_; have BK369 := n2_; have HB := n3_; have BK370 := n4_; have GW370 := n5_; have GE370 := n6_; have NB367_370 := n7_; have NB370_367 := n8_; have NB368_370 := n9_; have NB370_368 := n10_; have NB369_370 := n11_; have NB370_369 := n12_; clear n0_ n1_ n2_ n3_ n4_ n5_ n6_ n7_ n8_ n9_ n10_ n11_ n12_; clear hb hbox hg; have hnb10 := NB367_368.out; have hnc10 := NB368_367.out; have hnb11 := NB367_369.out; have hnc11 := NB369_367.out; have hnb12 := NB367_370.out; have hnc12 := NB370_367.out; have hcz13_0 : w9.cell? ⟨gb367, 0, none⟩ = some (.slice A0_0 l0_0.length c0_0) := (blk_cell BK367.out 0).trans rfl; have hcz13_1 : w9.cell? ⟨gb367, 1, none⟩ = some (.slice A0_1 l0_1.length c0_1) := (blk_cell BK367.out 1).trans rfl; have hfz13_0 := blk_frozen BK367.out 0; have hfz13_1 := blk_frozen BK367.out 1; have hnb14 := NB368_369.out; have hnc14 := NB369_368.out; have hnb15 := NB368_370.out; have hnc15 := NB370_368.out; have hcz16_0 : w9.cell? ⟨gb368, 0, none⟩ = some (.string a1_0) := (blk_cell BK368.out 0).trans rfl; have hcz16_1 : w9.cell? ⟨gb368, 1, none⟩ = some (.string a1_1) := (blk_cell BK368.out 1).trans rfl; have hfz16_0 := blk_frozen BK368.out 0; have hfz16_1 := blk_frozen BK368.out 1) | ((with_reducible refine gate_callee (f := 33) rfl ?_); refine goesL_ (some 14) rfl rfl Try.func33 (by kernel_rfl) rfl #[.agg #[.slice A0_0 l0_0.length c0_0, .slice A0_1 l0_1.length c0_1], .string a1_0] rfl (by (try simp only [List.map_toArray, List.map_cons, List.map_nil]); first | done | rfl | (simp only [List.length_drop, List.length_take]; rfl) | (simp only [*]; rfl)) ?_; (with_reducible refine (conciergeref15_Row.calls k _ _ l0_0 _ _ l0_1 a1_0 t371 t372 _ ?side1 ?side2 ?side3 ?side4 A3.out).mono ?_); (case side1 => repeat (first | exact (Kd.C_below HR0_0.out HB.out) | (with_reducible refine Kd.C_alloc ?_ _) | (with_reducible refine Kd.C_drewN ?_ _) | (with_reducible refine Kd.C_drew ?_))); (case side2 => exact HC0_0.out); (case side3 => repeat (first | exact (Kd.C_below HR0_1.out HB.out) | (with_reducible refine Kd.C_alloc ?_ _) | (with_reducible refine Kd.C_drewN ?_ _) | (with_reducible refine Kd.C_drew ?_))); (case side4 => exact HC0_1.out); rintro e w17 ⟨rfl, hb⟩; refine ⟨_, rfl, ?_⟩; have n0_ := Aside0.mk (blk_below (g := gb367) (o := .cells #[.slice A0_0 l0_0.length c0_0, .slice A0_1 l0_1.length c0_1] 28 (0, 0)) (fA1 BK367) hb); have n1_ := Aside0.mk (blk_below (g := gb368) (o := .cells #[.string a1_0, .string a1_1] 34 (0, 0)) (fA1 BK368) hb); have n2_ := Aside0.mk (blk_below (g := gb369) (o := .cells #[.int .i64 0, .int .i64 0, .int .i64 0, .int .i64 0, .int .i64 0, .int .i64 0] 35 (0, 0)) (fA1 BK369) hb); have n3_ := Aside0.mk (blk_below (g := gb370) (o := .cells #[.int .i64 0, .int .i64 0, .int .i64 0, .int .i64 0, .int .i64 0, .int .i64 0] 35 (0, 0)) (fA1 BK370) hb); have n4_ := Aside0.mk (below_step (fB5 GE367 GE368 GE369 GE370) hb); clear BK367; clear BK368; clear BK369; clear BK370; clear HB; have BK367 := n0_; have BK368 := n1_; have BK369 := n2_; have BK370 := n3_; have HB := n4_; clear n0_ n1_ n2_ n3_ n4_; (try clear hb); (try clear hb2); (try clear hk); (try clear hi); have hcz18_0 : w17.cell? ⟨gb367, 0, none⟩ = some (.slice A0_0 l0_0.length c0_0) := (blk_cell BK367.out 0).trans rfl; have hcz18_1 : w17.cell? ⟨gb367, 1, none⟩ = some (.slice A0_1 l0_1.length c0_1) := (blk_cell BK367.out 1).trans rfl; have hfz18_0 := blk_frozen BK367.out 0; have hfz18_1 := blk_frozen BK367.out 1; have hcz19_0 : w17.cell? ⟨gb368, 0, none⟩ = some (.string a1_0) := (blk_cell BK368.out 0).trans rfl; have hcz19_1 : w17.cell? ⟨gb368, 1, none⟩ = some (.string a1_1) := (blk_cell BK368.out 1).trans rfl; have hfz19_0 := blk_frozen BK368.out 0; have hfz19_1 := blk_frozen BK368.out 1) | ((with_reducible refine gate_callee (f := 33) rfl ?_); refine goesL_ (some 21) rfl rfl Try.func33 (by kernel_rfl) rfl #[.agg #[.slice A0_0 l0_0.length c0_0, .slice A0_1 l0_1.length c0_1], .string a1_1] rfl (by (try simp only [List.map_toArray, List.map_cons, List.map_nil]); first | done | rfl | (simp only [List.length_drop, List.length_take]; rfl) | (simp only [*]; rfl)) ?_; (with_reducible refine (conciergeref15_Row.calls k _ _ l0_0 _ _ l0_1 a1_1 t373 t374 _ ?side1 ?side2 ?side3 ?side4 A4.out).mono ?_); (case side1 => repeat (first | exact (Kd.C_below HR0_0.out HB.out) | (with_reducible refine Kd.C_alloc ?_ _) | (with_reducible refine Kd.C_drewN ?_ _) | (with_reducible refine Kd.C_drew ?_))); (case side2 => exact HC0_0.out); (case side3 => repeat (first | exact (Kd.C_below HR0_1.out HB.out) | (with_reducible refine Kd.C_alloc ?_ _) | (with_reducible refine Kd.C_drewN ?_ _) | (with_reducible refine Kd.C_drew ?_))); (case side4 => exact HC0_1.out); rintro e w20 ⟨rfl, hb⟩; refine ⟨_, rfl, ?_⟩; have n0_ := Aside0.mk (blk_below (g := gb367) (o := .cells #[.slice A0_0 l0_0.length c0_0, .slice A0_1 l0_1.length c0_1] 28 (0, 0)) (fA1 BK367) hb); have n1_ := Aside0.mk (blk_below (g := gb368) (o := .cells #[.string a1_0, .string a1_1] 34 (0, 0)) (fA1 BK368) hb); have n2_ := Aside0.mk (blk_below (g := gb369) (o := .cells #[.int .i64 0, .int .i64 0, .int .i64 0, .int .i64 0, .int .i64 0, .int .i64 0] 35 (0, 0)) (fA1 BK369) hb); have n3_ := Aside0.mk (blk_below (g := gb370) (o := .cells #[.int .i64 0, .int .i64 0, .int .i64 0, .int .i64 0, .int .i64 0, .int .i64 0] 35 (0, 0)) (fA1 BK370) hb); have n4_ := Aside0.mk (below_step (fB5 GE367 GE368 GE369 GE370) hb); clear BK367; clear BK368; clear BK369; clear BK370; clear HB; have BK367 := n0_; have BK368 := n1_; have BK369 := n2_; have BK370 := n3_; have HB := n4_; clear n0_ n1_ n2_ n3_ n4_; (try clear hb); (try clear hb2); (try clear hk); (try clear hi); have hcz21_0 : w20.cell? ⟨gb368, 0, none⟩ = some (.string a1_0) := (blk_cell BK368.out 0).trans rfl; have hcz21_1 : w20.cell? ⟨gb368, 1, none⟩ = some (.string a1_1) := (blk_cell BK368.out 1).trans rfl; have hfz21_0 := blk_frozen BK368.out 0; have hfz21_1 := blk_frozen BK368.out 1))
 (try simp only [Act.put, List.setIfInBounds_toArray, List.set_cons_zero, List.set_cons_succ])
 go_cut [] (fun wc => ∃ (kq : Nat) (x371000_4 : Int), Aside0 (conciergeref15_Keys.j0 kq t371 t372 t373 a1_0 a1_1 x371000_4 0 0 0 0 0 = some (r1, r2, r3, r4, r5, r6)) ∧ Aside0 (kq ≤ k) ∧ Aside0 (wc.heap[gb367]? = some (.cells #[(.slice A0_0 l0_0.length c0_0), (.slice A0_1 l0_1.length c0_1)] 28 (0, 0))) ∧ Aside0 (wc.heap[gb368]? = some (.cells #[.string a1_0, .string a1_1] 34 (0, 0))) ∧ Aside0 (wc.heap[gb369]? = some (.cells #[.int .i64 0, .int .i64 0, .int .i64 0, .int .i64 0, .int .i64 0, .int .i64 0] 35 (0, 0))) ∧ Aside0 (wc.heap[gb370]? = some (.cells #[.int .i64 x371000_4, .int .i64 0, .int .i64 0, .int .i64 0, .int .i64 0, .int .i64 0] 35 (0, 0))) ∧ Aside0 (Below w.heap.size w wc))
 case first =>
  have H := HC5.out
  clear HC5
  by_cases c22 : a1_1.toList = ([] : List UInt8)
  ·rw [if_pos c22] at H
   have c22b0 : (a1_1.toList == ([] : List UInt8)) = true := beq_iff_eq.mpr c22
   have c22e : a1_1.toList.isEmpty = true := by simpa using c22b0
   have c22b1 : (a1_1.toList != ([] : List UInt8)) = false := bne_eq_false_iff_eq.mpr c22
   clear c22
   (first | rw [c22b0] | rw [c22e] | (simp only [i64_w, i32_w]; rw [c22b0]) | skip)
   have H' := Aside0.mk H
   clear H
   have hnb23 := NB370_367.out
   have hnc23 := NB367_370.out
   have hnb24 := NB370_368.out
   have hnc24 := NB368_370.out
   have hnb25 := NB370_369.out
   have hnc25 := NB369_370.out
   have hcz26_0 : w20.cell? ⟨gb370, 0, none⟩ = some (.int .i64 0) := (blk_cell BK370.out 0).trans rfl
   have hcz26_1 : w20.cell? ⟨gb370, 1, none⟩ = some (.int .i64 0) := (blk_cell BK370.out 1).trans rfl
   have hcz26_2 : w20.cell? ⟨gb370, 2, none⟩ = some (.int .i64 0) := (blk_cell BK370.out 2).trans rfl
   have hcz26_3 : w20.cell? ⟨gb370, 3, none⟩ = some (.int .i64 0) := (blk_cell BK370.out 3).trans rfl
   have hcz26_4 : w20.cell? ⟨gb370, 4, none⟩ = some (.int .i64 0) := (blk_cell BK370.out 4).trans rfl
   have hcz26_5 : w20.cell? ⟨gb370, 5, none⟩ = some (.int .i64 0) := (blk_cell BK370.out 5).trans rfl
   have hfz26_0 := blk_frozen BK370.out 0
   have hfz26_1 := blk_frozen BK370.out 1
   have hfz26_2 := blk_frozen BK370.out 2
   have hfz26_3 := blk_frozen BK370.out 3
   have hfz26_4 := blk_frozen BK370.out 4
   have hfz26_5 := blk_frozen BK370.out 5
   go_wp2
   go_meet
   case rel => exact ⟨_, (1), H', ⟨by first | omega | exact Nat.le_refl _⟩, ⟨by (with_reducible repeat (first | refine blk_drewN ?_ _ | refine blk_drew ?_ | refine blk_alloc ?_ _)); refine blk_far ?_ NB367_370.out _; (with_reducible repeat (first | refine blk_drewN ?_ _ | refine blk_drew ?_ | refine blk_alloc ?_ _)); exact BK367.out⟩, ⟨by (with_reducible repeat (first | refine blk_drewN ?_ _ | refine blk_drew ?_ | refine blk_alloc ?_ _)); refine blk_far ?_ NB368_370.out _; (with_reducible repeat (first | refine blk_drewN ?_ _ | refine blk_drew ?_ | refine blk_alloc ?_ _)); exact BK368.out⟩, ⟨by (with_reducible repeat (first | refine blk_drewN ?_ _ | refine blk_drew ?_ | refine blk_alloc ?_ _)); refine blk_far ?_ NB369_370.out _; (with_reducible repeat (first | refine blk_drewN ?_ _ | refine blk_drew ?_ | refine blk_alloc ?_ _)); exact BK369.out⟩, ⟨by (with_reducible repeat (first | refine blk_drewN ?_ _ | refine blk_drew ?_ | refine blk_alloc ?_ _)); refine blk_put (cs := #[.int .i64 0, .int .i64 0, .int .i64 0, .int .i64 0, .int .i64 0, .int .i64 0]) ?_ 0 _ rfl; (with_reducible repeat (first | refine blk_drewN ?_ _ | refine blk_drew ?_ | refine blk_alloc ?_ _)); exact BK370.out⟩, ⟨(fB5 GE367 GE368 GE369 GE370)⟩⟩
  ·rw [if_neg c22] at H
   have c22b0 : (a1_1.toList == ([] : List UInt8)) = false := beq_eq_false_iff_ne.mpr c22
   have c22e : a1_1.toList.isEmpty = false := by simpa using c22b0
   have c22b1 : (a1_1.toList != ([] : List UInt8)) = true := bne_iff_ne.mpr c22
   (first | rw [c22b0] | rw [c22e] | (simp only [i64_w, i32_w]; rw [c22b0]) | skip)
   have H' := Aside0.mk H
   clear H
   go_wp2
   go_meet
   case rel => exact ⟨_, (0), H', ⟨by first | omega | exact Nat.le_refl _⟩, ⟨(fA1 BK367)⟩, ⟨(fA1 BK368)⟩, ⟨(fA1 BK369)⟩, ⟨(fA1 BK370)⟩, ⟨(fB5 GE367 GE368 GE369 GE370)⟩⟩
 case rest =>
  clear HC5
  try clear c1
  try clear c2
  try clear p2
  try clear c3
  try clear c10
  try clear c11
  try clear c12
  try clear c14
  try clear c15
  try clear c22
  try clear c22b0
  try clear c22b1
  try clear c23
  try clear c24
  try clear c25
  try clear hcz13_0
  try clear hcz13_1
  try clear hcz16_0
  try clear hcz16_1
  try clear hcz18_0
  try clear hcz18_1
  try clear hcz19_0
  try clear hcz19_1
  try clear hcz21_0
  try clear hcz21_1
  try clear hcz26_0
  try clear hcz26_1
  try clear hcz26_2
  try clear hcz26_3
  try clear hcz26_4
  try clear hcz26_5
  try clear hfz13_0
  try clear hfz13_1
  try clear hfz16_0
  try clear hfz16_1
  try clear hfz18_0
  try clear hfz18_1
  try clear hfz19_0
  try clear hfz19_1
  try clear hfz21_0
  try clear hfz21_1
  try clear hfz26_0
  try clear hfz26_1
  try clear hfz26_2
  try clear hfz26_3
  try clear hfz26_4
  try clear hfz26_5
  obtain ⟨kq, x371000_4, HA, HJ4, BK367, BK368, BK369, BK370, HB⟩ := hcut
  cases kq with
  | zero => exact absurd HA.out (by simp [conciergeref15_Keys.j0])
  | succ kj4 =>
   have H := HA.out
   clear HA
   simp only [conciergeref15_Keys.j0] at H
   have HC27 := Aside0.mk H
   clear H
   go_upto_region 6 with (fail)
   go_cut [39] (fun v39 wc => ∃ (kq : Nat) (x39_26 : Bool), v39 = .bool x39_26 ∧ Aside0 (conciergeref15_Keys.j1 kq t371 t372 t373 x39_26 a1_0 a1_1 x371000_4 0 0 0 0 0 = some (r1, r2, r3, r4, r5, r6)) ∧ Aside0 (kq ≤ kj4) ∧ Aside0 (wc.heap[gb367]? = some (.cells #[(.slice A0_0 l0_0.length c0_0), (.slice A0_1 l0_1.length c0_1)] 28 (0, 0))) ∧ Aside0 (wc.heap[gb368]? = some (.cells #[.string a1_0, .string a1_1] 34 (0, 0))) ∧ Aside0 (wc.heap[gb369]? = some (.cells #[.int .i64 0, .int .i64 0, .int .i64 0, .int .i64 0, .int .i64 0, .int .i64 0] 35 (0, 0))) ∧ Aside0 (wc.heap[gb370]? = some (.cells #[.int .i64 x371000_4, .int .i64 0, .int .i64 0, .int .i64 0, .int .i64 0, .int .i64 0] 35 (0, 0))) ∧ Aside0 (Below w.heap.size w wc))
   case first =>
    have H := HC27.out
    clear HC27
    by_cases c28 : a1_1.toList = ([] : List UInt8)
    ·rw [if_pos c28] at H
     have c28b0 : (a1_1.toList == ([] : List UInt8)) = true := beq_iff_eq.mpr c28
     have c28e : a1_1.toList.isEmpty = true := by simpa using c28b0
     have c28b1 : (a1_1.toList != ([] : List UInt8)) = false := bne_eq_false_iff_eq.mpr c28
     clear c28
     (first | rw [c28b0] | rw [c28e] | (simp only [i64_w, i32_w]; rw [c28b0]) | skip)
     have H' := Aside0.mk H
     clear H
     try go_wp2
     have n0_ := Aside0.mk (blk_drew BK367.out)
     have n1_ := Aside0.mk (blk_drew BK368.out)
     have n2_ := Aside0.mk (blk_drew BK369.out)
     have n3_ := Aside0.mk (blk_drew BK370.out)
     have n4_ := Aside0.mk (below_drew1 HB.out)
     clear BK367
     clear BK368
     clear BK369
     clear BK370
     clear HB
     have BK367 := n0_
     have BK368 := n1_
     have BK369 := n2_
     have BK370 := n3_
     have HB := n4_
     clear n0_ n1_ n2_ n3_ n4_
     refine start_ (n := 12) (S := fun w' => w'.cell? ⟨gb368, 0, none⟩ = some (.string a1_0) ∧ w'.cell? ⟨gb368, 1, none⟩ = some (.string a1_1)) (ds := []) #[false, false, false, false, false, false, false, false, false, false, false, false] (by kernel_rfl) rfl rfl ⟨(blk_cell BK368.out 0).trans rfl, (blk_cell BK368.out 1).trans rfl⟩ (fun hHeld => ?_); refine with_tabW conciergeref15_Keys.tab6 conciergeref15_Keys.bits6 (fun HT_ HW_ => ?_)
     generalize wc.drew = w29 at BK367 BK368 BK369 BK370 HB hHeld ⊢
     refine pure_ (i := 0) (N := some 28) (v := ?_) (a' := ?_) #[true, false, false, false, false, false, false, false, false, false, false, false] rfl rfl (any_of HT_.out (by kernel_rfl)) (fun _ _ _ h => h) (Or.inl ⟨by rfl, ?_⟩) ?_ ?_
     rotate_left
     ·intro w'
      go_simp
      with_reducible rfl
     rotate_left
     ·simp only [Act.put, List.setIfInBounds_toArray, List.set_cons_zero, List.set_cons_succ, i64_w, i32_w]
      rfl
     refine take_ (i := 1) (N := some 29) (v := ?_) (a' := ?_) #[true, true, false, false, false, false, false, false, false, false, false, false] rfl rfl (take_ofW HT_.out HW_.out (by kernel_rfl)) (fun _ _ _ h => h) (Or.inl ⟨by rfl, ?_⟩) hHeld ?_ ?_
     rotate_left
     ·rintro w' ⟨s0, s1⟩
      go_simp
      with_reducible rfl
     rotate_left
     ·simp only [Act.put, List.setIfInBounds_toArray, List.set_cons_zero, List.set_cons_succ, i64_w, i32_w]
      rfl
     refine pure_ (i := 2) (N := some 30) (v := ?_) (a' := ?_) #[true, true, true, false, false, false, false, false, false, false, false, false] rfl rfl (any_of HT_.out (by kernel_rfl)) (fun _ _ _ h => h) (Or.inl ⟨by rfl, ?_⟩) ?_ ?_
     rotate_left
     ·intro w'
      go_simp
      with_reducible rfl
     rotate_left
     ·simp only [Act.put, List.setIfInBounds_toArray, List.set_cons_zero, List.set_cons_succ, i64_w, i32_w]
      rfl
     refine pure_ (i := 3) (N := some 31) (v := ?_) (a' := ?_) #[true, true, true, true, false, false, false, false, false, false, false, false] rfl rfl (any_of HT_.out (by kernel_rfl)) (fun _ _ _ h => h) (Or.inl ⟨by rfl, ?_⟩) ?_ ?_
     rotate_left
     ·intro w'
      go_simp
      with_reducible rfl
     rotate_left
     ·simp only [Act.put, List.setIfInBounds_toArray, List.set_cons_zero, List.set_cons_succ, i64_w, i32_w]
      rfl
     refine pure_ (i := 4) (N := some 32) (v := undef) (a' := ?_) #[true, true, true, true, true, false, false, false, false, false, false, false] rfl rfl (any_of HT_.out (by kernel_rfl)) (fun _ _ _ h => h) (Or.inr ⟨by rfl, rfl⟩) ?_ ?_
     rotate_left
     ·simp only [Act.put, List.setIfInBounds_toArray, List.set_cons_zero, List.set_cons_succ, i64_w, i32_w]
      rfl
     refine pure_ (i := 5) (N := some 33) (v := undef) (a' := ?_) #[true, true, true, true, true, true, false, false, false, false, false, false] rfl rfl (any_of HT_.out (by kernel_rfl)) (fun _ _ _ h => h) (Or.inr ⟨by rfl, rfl⟩) ?_ ?_
     rotate_left
     ·simp only [Act.put, List.setIfInBounds_toArray, List.set_cons_zero, List.set_cons_succ, i64_w, i32_w]
      rfl
     refine pure_ (i := 6) (N := some 34) (v := undef) (a' := ?_) #[true, true, true, true, true, true, true, false, false, false, false, false] rfl rfl (any_of HT_.out (by kernel_rfl)) (fun _ _ _ h => h) (Or.inr ⟨by rfl, rfl⟩) ?_ ?_
     rotate_left
     ·simp only [Act.put, List.setIfInBounds_toArray, List.set_cons_zero, List.set_cons_succ, i64_w, i32_w]
      rfl
     refine pure_ (i := 7) (N := some 35) (v := undef) (a' := ?_) #[true, true, true, true, true, true, true, true, false, false, false, false] rfl rfl (any_of HT_.out (by kernel_rfl)) (fun _ _ _ h => h) (Or.inr ⟨by rfl, rfl⟩) ?_ ?_
     rotate_left
     ·simp only [Act.put, List.setIfInBounds_toArray, List.set_cons_zero, List.set_cons_succ, i64_w, i32_w]
      rfl
     refine pure_ (i := 8) (N := some 36) (v := undef) (a' := ?_) #[true, true, true, true, true, true, true, true, true, false, false, false] rfl rfl (any_of HT_.out (by kernel_rfl)) (fun _ _ _ h => h) (Or.inr ⟨by rfl, rfl⟩) ?_ ?_
     rotate_left
     ·simp only [Act.put, List.setIfInBounds_toArray, List.set_cons_zero, List.set_cons_succ, i64_w, i32_w]
      rfl
     refine pure_ (i := 9) (N := some 37) (v := undef) (a' := ?_) #[true, true, true, true, true, true, true, true, true, true, false, false] rfl rfl (any_of HT_.out (by kernel_rfl)) (fun _ _ _ h => h) (Or.inr ⟨by rfl, rfl⟩) ?_ ?_
     rotate_left
     ·simp only [Act.put, List.setIfInBounds_toArray, List.set_cons_zero, List.set_cons_succ, i64_w, i32_w]
      rfl
     refine pure_ (i := 10) (N := some 38) (v := undef) (a' := ?_) #[true, true, true, true, true, true, true, true, true, true, true, false] rfl rfl (any_of HT_.out (by kernel_rfl)) (fun _ _ _ h => h) (Or.inr ⟨by rfl, rfl⟩) ?_ ?_
     rotate_left
     ·simp only [Act.put, List.setIfInBounds_toArray, List.set_cons_zero, List.set_cons_succ, i64_w, i32_w]
      rfl
     refine pure_ (i := 11) (N := some 39) (v := ?_) (a' := ?_) #[true, true, true, true, true, true, true, true, true, true, true, true] rfl rfl (any_of HT_.out (by kernel_rfl)) (fun _ _ _ h => h) (Or.inl ⟨by rfl, ?_⟩) ?_ ?_
     rotate_left
     ·intro w'
      go_simp
      with_reducible rfl
     rotate_left
     ·simp only [Act.put, List.setIfInBounds_toArray, List.set_cons_zero, List.set_cons_succ, i64_w, i32_w]
      rfl
     refine done_ (done_of HT_.out (by kernel_rfl)) ?_
     try go_wp2
     go_meet
     case rel => exact ⟨_, (true), s1_, H', ⟨by have := HJ4.out; first | omega | exact Nat.le_refl _⟩, ⟨(fA1 BK367)⟩, ⟨(fA1 BK368)⟩, ⟨(fA1 BK369)⟩, ⟨(fA1 BK370)⟩, ⟨(fB5 GE367 GE368 GE369 GE370)⟩⟩
    ·rw [if_neg c28] at H
     have c28b0 : (a1_1.toList == ([] : List UInt8)) = false := beq_eq_false_iff_ne.mpr c28
     have c28e : a1_1.toList.isEmpty = false := by simpa using c28b0
     have c28b1 : (a1_1.toList != ([] : List UInt8)) = true := bne_iff_ne.mpr c28
     (first | rw [c28b0] | rw [c28e] | (simp only [i64_w, i32_w]; rw [c28b0]) | skip)
     replace H := Option.bind_eq_some_iff.mp H
     obtain ⟨t375, A300, H⟩ := H
     have A30 := Aside0.mk A300
     clear A300
     replace H := Option.bind_eq_some_iff.mp H
     obtain ⟨t376, A310, H⟩ := H
     have A31 := Aside0.mk A310
     clear A310
     have H' := Aside0.mk H
     clear H
     try go_wp2
     have n0_ := Aside0.mk (blk_drew BK367.out)
     have n1_ := Aside0.mk (blk_drew BK368.out)
     have n2_ := Aside0.mk (blk_drew BK369.out)
     have n3_ := Aside0.mk (blk_drew BK370.out)
     have n4_ := Aside0.mk (below_drew1 HB.out)
     clear BK367
     clear BK368
     clear BK369
     clear BK370
     clear HB
     have BK367 := n0_
     have BK368 := n1_
     have BK369 := n2_
     have BK370 := n3_
     have HB := n4_
     clear n0_ n1_ n2_ n3_ n4_
     refine start_ (n := 12) (S := fun w' => w'.cell? ⟨gb368, 0, none⟩ = some (.string a1_0) ∧ w'.cell? ⟨gb368, 1, none⟩ = some (.string a1_1)) (ds := []) #[false, false, false, false, false, false, false, false, false, false, false, false] (by kernel_rfl) rfl rfl ⟨(blk_cell BK368.out 0).trans rfl, (blk_cell BK368.out 1).trans rfl⟩ (fun hHeld => ?_); refine with_tabW conciergeref15_Keys.tab6 conciergeref15_Keys.bits6 (fun HT_ HW_ => ?_)
     generalize wc.drew = w32 at BK367 BK368 BK369 BK370 HB hHeld ⊢
     refine pure_ (i := 0) (N := some 28) (v := ?_) (a' := ?_) #[true, false, false, false, false, false, false, false, false, false, false, false] rfl rfl (any_of HT_.out (by kernel_rfl)) (fun _ _ _ h => h) (Or.inl ⟨by rfl, ?_⟩) ?_ ?_
     rotate_left
     ·intro w'
      go_simp
      with_reducible rfl
     rotate_left
     ·simp only [Act.put, List.setIfInBounds_toArray, List.set_cons_zero, List.set_cons_succ, i64_w, i32_w]
      rfl
     refine take_ (i := 1) (N := some 29) (v := ?_) (a' := ?_) #[true, true, false, false, false, false, false, false, false, false, false, false] rfl rfl (take_ofW HT_.out HW_.out (by kernel_rfl)) (fun _ _ _ h => h) (Or.inl ⟨by rfl, ?_⟩) hHeld ?_ ?_
     rotate_left
     ·rintro w' ⟨s0, s1⟩
      go_simp
      with_reducible rfl
     rotate_left
     ·simp only [Act.put, List.setIfInBounds_toArray, List.set_cons_zero, List.set_cons_succ, i64_w, i32_w]
      rfl
     refine pure_ (i := 2) (N := some 30) (v := ?_) (a' := ?_) #[true, true, true, false, false, false, false, false, false, false, false, false] rfl rfl (any_of HT_.out (by kernel_rfl)) (fun _ _ _ h => h) (Or.inl ⟨by rfl, ?_⟩) ?_ ?_
     rotate_left
     ·intro w'
      go_simp
      with_reducible rfl
     rotate_left
     ·simp only [Act.put, List.setIfInBounds_toArray, List.set_cons_zero, List.set_cons_succ, i64_w, i32_w]
      rfl
     refine pure_ (i := 3) (N := some 31) (v := ?_) (a' := ?_) #[true, true, true, true, false, false, false, false, false, false, false, false] rfl rfl (any_of HT_.out (by kernel_rfl)) (fun _ _ _ h => h) (Or.inl ⟨by rfl, ?_⟩) ?_ ?_
     rotate_left
     ·intro w'
      go_simp
      with_reducible rfl
     rotate_left
     ·simp only [Act.put, List.setIfInBounds_toArray, List.set_cons_zero, List.set_cons_succ, i64_w, i32_w]
      rfl
     refine pure_ (i := 4) (N := some 32) (v := ?_) (a' := ?_) #[true, true, true, true, true, false, false, false, false, false, false, false] rfl rfl (any_of HT_.out (by kernel_rfl)) (fun _ _ _ h => h) (Or.inl ⟨by rfl, ?_⟩) ?_ ?_
     rotate_left
     ·intro w'
      go_simp
      with_reducible rfl
     rotate_left
     ·simp only [Act.put, List.setIfInBounds_toArray, List.set_cons_zero, List.set_cons_succ, i64_w, i32_w]
      rfl
     refine pure_ (i := 7) (N := some 35) (v := ?_) (a' := ?_) #[true, true, true, true, true, false, false, true, false, false, false, false] rfl rfl (any_of HT_.out (by kernel_rfl)) (fun _ _ _ h => h) (Or.inl ⟨by rfl, ?_⟩) ?_ ?_
     rotate_left
     ·intro w'
      go_simp
      with_reducible rfl
     rotate_left
     ·simp only [Act.put, List.setIfInBounds_toArray, List.set_cons_zero, List.set_cons_succ, i64_w, i32_w]
      rfl
     refine take_ (i := 5) (N := some 33) (v := ?_) (a' := ?_) #[true, true, true, true, true, true, false, true, false, false, false, false] rfl rfl (take_ofW HT_.out HW_.out (by kernel_rfl)) (fun _ _ _ h => h) (Or.inl ⟨by rfl, ?_⟩) hHeld ?_ ?_
     rotate_left
     ·rintro w' ⟨s0, s1⟩
      go_simp
      with_reducible rfl
     rotate_left
     ·simp only [Act.put, List.setIfInBounds_toArray, List.set_cons_zero, List.set_cons_succ, i64_w, i32_w]
      rfl
     refine take_ (i := 8) (N := some 36) (v := ?_) (a' := ?_) #[true, true, true, true, true, true, false, true, true, false, false, false] rfl rfl (take_ofW HT_.out HW_.out (by kernel_rfl)) (fun _ _ _ h => h) (Or.inl ⟨by rfl, ?_⟩) hHeld ?_ ?_
     rotate_left
     ·rintro w' ⟨s0, s1⟩
      go_simp
      with_reducible rfl
     rotate_left
     ·simp only [Act.put, List.setIfInBounds_toArray, List.set_cons_zero, List.set_cons_succ, i64_w, i32_w]
      rfl
     refine one_ (i := 6) (N := some 34) #[true, true, true, true, true, true, true, true, true, false, false, false] rfl rfl (one_of HT_.out (by kernel_rfl)) (by decide) (fun K hK => ?_)
     refine goes_ Try.func34 (by kernel_rfl) rfl #[.string a1_0] (by rfl) rfl rfl (by (try simp only [List.map_toArray, List.map_cons, List.map_nil]); first | done | rfl | (simp only [List.length_drop, List.length_take]; rfl) | (simp only [*]; rfl)) ?_
     with_reducible refine (conciergeref15_Scope.calls a1_0 t375 _ A30.out).mono ?_
     rintro e w33 ⟨rfl, hb⟩
     refine ⟨_, rfl, ?_⟩
     have n0_ := Aside0.mk (blk_below (g := gb367) (o := .cells #[.slice A0_0 l0_0.length c0_0, .slice A0_1 l0_1.length c0_1] 28 (0, 0)) (fA1 BK367) hb)
     have n1_ := Aside0.mk (blk_below (g := gb368) (o := .cells #[.string a1_0, .string a1_1] 34 (0, 0)) (fA1 BK368) hb)
     have n2_ := Aside0.mk (blk_below (g := gb369) (o := .cells #[.int .i64 0, .int .i64 0, .int .i64 0, .int .i64 0, .int .i64 0, .int .i64 0] 35 (0, 0)) (fA1 BK369) hb)
     have n3_ := Aside0.mk (blk_below (g := gb370) (o := .cells #[.int .i64 x371000_4, .int .i64 0, .int .i64 0, .int .i64 0, .int .i64 0, .int .i64 0] 35 (0, 0)) (fA1 BK370) hb)
     have n4_ := Aside0.mk (below_step (fB5 GE367 GE368 GE369 GE370) hb)
     clear BK367
     clear BK368
     clear BK369
     clear BK370
     clear HB
     have BK367 := n0_
     have BK368 := n1_
     have BK369 := n2_
     have BK370 := n3_
     have HB := n4_
     clear n0_ n1_ n2_ n3_ n4_
     (try clear hb)
     (try clear hb2)
     (try clear hk)
     (try clear hi)
     refine hK.out _ _ ⟨(blk_cell BK368.out 0).trans rfl, (blk_cell BK368.out 1).trans rfl⟩ (fun hHeld => ?_)
     clear hK K
     refine norm_ (a' := ?_) ?_ ?_
     rotate_left
     ·show Act.put _ (some 34) _ = _
      simp only [Act.put, List.setIfInBounds_toArray, List.set_cons_zero, List.set_cons_succ, i64_w, i32_w]
      rfl
     refine one_ (i := 9) (N := some 37) #[true, true, true, true, true, true, true, true, true, true, false, false] rfl rfl (one_of HT_.out (by kernel_rfl)) (by decide) (fun K hK => ?_)
     refine goes_ Try.func34 (by kernel_rfl) rfl #[.string a1_1] (by rfl) rfl rfl (by (try simp only [List.map_toArray, List.map_cons, List.map_nil]); first | done | rfl | (simp only [List.length_drop, List.length_take]; rfl) | (simp only [*]; rfl)) ?_
     with_reducible refine (conciergeref15_Scope.calls a1_1 t376 _ A31.out).mono ?_
     rintro e w34 ⟨rfl, hb⟩
     refine ⟨_, rfl, ?_⟩
     have n0_ := Aside0.mk (blk_below (g := gb367) (o := .cells #[.slice A0_0 l0_0.length c0_0, .slice A0_1 l0_1.length c0_1] 28 (0, 0)) (fA1 BK367) hb)
     have n1_ := Aside0.mk (blk_below (g := gb368) (o := .cells #[.string a1_0, .string a1_1] 34 (0, 0)) (fA1 BK368) hb)
     have n2_ := Aside0.mk (blk_below (g := gb369) (o := .cells #[.int .i64 0, .int .i64 0, .int .i64 0, .int .i64 0, .int .i64 0, .int .i64 0] 35 (0, 0)) (fA1 BK369) hb)
     have n3_ := Aside0.mk (blk_below (g := gb370) (o := .cells #[.int .i64 x371000_4, .int .i64 0, .int .i64 0, .int .i64 0, .int .i64 0, .int .i64 0] 35 (0, 0)) (fA1 BK370) hb)
     have n4_ := Aside0.mk (below_step (fB5 GE367 GE368 GE369 GE370) hb)
     clear BK367
     clear BK368
     clear BK369
     clear BK370
     clear HB
     have BK367 := n0_
     have BK368 := n1_
     have BK369 := n2_
     have BK370 := n3_
     have HB := n4_
     clear n0_ n1_ n2_ n3_ n4_
     (try clear hb)
     (try clear hb2)
     (try clear hk)
     (try clear hi)
     refine hK.out _ _ ⟨(blk_cell BK368.out 0).trans rfl, (blk_cell BK368.out 1).trans rfl⟩ (fun hHeld => ?_)
     clear hK K
     refine norm_ (a' := ?_) ?_ ?_
     rotate_left
     ·show Act.put _ (some 37) _ = _
      simp only [Act.put, List.setIfInBounds_toArray, List.set_cons_zero, List.set_cons_succ, i64_w, i32_w]
      rfl
     refine pure_ (i := 10) (N := some 38) (v := ?_) (a' := ?_) #[true, true, true, true, true, true, true, true, true, true, true, false] rfl rfl (any_of HT_.out (by kernel_rfl)) (fun _ _ _ h => h) (Or.inl ⟨by rfl, ?_⟩) ?_ ?_
     rotate_left
     ·intro w'
      go_simp
      with_reducible rfl
     rotate_left
     ·simp only [Act.put, List.setIfInBounds_toArray, List.set_cons_zero, List.set_cons_succ, i64_w, i32_w]
      rfl
     refine pure_ (i := 11) (N := some 39) (v := ?_) (a' := ?_) #[true, true, true, true, true, true, true, true, true, true, true, true] rfl rfl (any_of HT_.out (by kernel_rfl)) (fun _ _ _ h => h) (Or.inl ⟨by rfl, ?_⟩) ?_ ?_
     rotate_left
     ·intro w'
      go_simp
      with_reducible rfl
     rotate_left
     ·simp only [Act.put, List.setIfInBounds_toArray, List.set_cons_zero, List.set_cons_succ, i64_w, i32_w]
      rfl
     refine done_ (done_of HT_.out (by kernel_rfl)) ?_
     try go_wp2
     go_meet
     case rel => exact ⟨_, ((t375 != t376)), s1_, H', ⟨by have := HJ4.out; first | omega | exact Nat.le_refl _⟩, ⟨(fA1 BK367)⟩, ⟨(fA1 BK368)⟩, ⟨(fA1 BK369)⟩, ⟨(fA1 BK370)⟩, ⟨(fB5 GE367 GE368 GE369 GE370)⟩⟩
   case rest =>
    clear HC27
    try clear c1
    try clear c2
    try clear p2
    try clear c3
    try clear c10
    try clear c11
    try clear c12
    try clear c14
    try clear c15
    try clear c22
    try clear c22b0
    try clear c22b1
    try clear c23
    try clear c24
    try clear c25
    try clear c28
    try clear c28b0
    try clear c28b1
    try clear c33
    try clear c34
    try clear hcz13_0
    try clear hcz13_1
    try clear hcz16_0
    try clear hcz16_1
    try clear hcz18_0
    try clear hcz18_1
    try clear hcz19_0
    try clear hcz19_1
    try clear hcz21_0
    try clear hcz21_1
    try clear hcz26_0
    try clear hcz26_1
    try clear hcz26_2
    try clear hcz26_3
    try clear hcz26_4
    try clear hcz26_5
    try clear hfz13_0
    try clear hfz13_1
    try clear hfz16_0
    try clear hfz16_1
    try clear hfz18_0
    try clear hfz18_1
    try clear hfz19_0
    try clear hfz19_1
    try clear hfz21_0
    try clear hfz21_1
    try clear hfz26_0
    try clear hfz26_1
    try clear hfz26_2
    try clear hfz26_3
    try clear hfz26_4
    try clear hfz26_5
    try clear p2
    obtain ⟨kq, x39_26, rfl, HA, HJ26, BK367, BK368, BK369, BK370, HB⟩ := hcut
    cases kq with
    | zero => exact absurd HA.out (by simp [conciergeref15_Keys.j1])
    | succ kj26 =>
     have H := HA.out
     clear HA
     simp only [conciergeref15_Keys.j1] at H
     have HC35 := Aside0.mk H
     clear H
     go_upto_if 39 with (fail)
     go_cut [] (fun wc => ∃ (kq : Nat) (x371001_34 : Int), Aside0 (conciergeref15_Keys.j2 kq t371 t372 t373 a1_0 a1_1 x371000_4 x371001_34 0 0 0 0 = some (r1, r2, r3, r4, r5, r6)) ∧ Aside0 (kq ≤ kj26) ∧ Aside0 (wc.heap[gb367]? = some (.cells #[(.slice A0_0 l0_0.length c0_0), (.slice A0_1 l0_1.length c0_1)] 28 (0, 0))) ∧ Aside0 (wc.heap[gb368]? = some (.cells #[.string a1_0, .string a1_1] 34 (0, 0))) ∧ Aside0 (wc.heap[gb369]? = some (.cells #[.int .i64 0, .int .i64 0, .int .i64 0, .int .i64 0, .int .i64 0, .int .i64 0] 35 (0, 0))) ∧ Aside0 (wc.heap[gb370]? = some (.cells #[.int .i64 x371000_4, .int .i64 x371001_34, .int .i64 0, .int .i64 0, .int .i64 0, .int .i64 0] 35 (0, 0))) ∧ Aside0 (Below w.heap.size w wc))
     case first =>
      have H := HC35.out
      clear HC35
      by_cases c36 : x39_26 = true
      ·subst c36
       rw [if_pos rfl] at H
       have H' := Aside0.mk H
       clear H
       have hnb37 := NB370_367.out
       have hnc37 := NB367_370.out
       have hnb38 := NB370_368.out
       have hnc38 := NB368_370.out
       have hnb39 := NB370_369.out
       have hnc39 := NB369_370.out
       have hcz40_0 : wc.cell? ⟨gb370, 0, none⟩ = some (.int .i64 x371000_4) := (blk_cell BK370.out 0).trans rfl
       have hcz40_1 : wc.cell? ⟨gb370, 1, none⟩ = some (.int .i64 0) := (blk_cell BK370.out 1).trans rfl
       have hcz40_2 : wc.cell? ⟨gb370, 2, none⟩ = some (.int .i64 0) := (blk_cell BK370.out 2).trans rfl
       have hcz40_3 : wc.cell? ⟨gb370, 3, none⟩ = some (.int .i64 0) := (blk_cell BK370.out 3).trans rfl
       have hcz40_4 : wc.cell? ⟨gb370, 4, none⟩ = some (.int .i64 0) := (blk_cell BK370.out 4).trans rfl
       have hcz40_5 : wc.cell? ⟨gb370, 5, none⟩ = some (.int .i64 0) := (blk_cell BK370.out 5).trans rfl
       have hfz40_0 := blk_frozen BK370.out 0
       have hfz40_1 := blk_frozen BK370.out 1
       have hfz40_2 := blk_frozen BK370.out 2
       have hfz40_3 := blk_frozen BK370.out 3
       have hfz40_4 := blk_frozen BK370.out 4
       have hfz40_5 := blk_frozen BK370.out 5
       go_wp2
       go_meet
       case rel => exact ⟨_, (1), H', ⟨by have := HJ4.out; have := HJ26.out; first | omega | exact Nat.le_refl _⟩, ⟨by (with_reducible repeat (first | refine blk_drewN ?_ _ | refine blk_drew ?_ | refine blk_alloc ?_ _)); refine blk_far ?_ NB367_370.out _; (with_reducible repeat (first | refine blk_drewN ?_ _ | refine blk_drew ?_ | refine blk_alloc ?_ _)); exact BK367.out⟩, ⟨by (with_reducible repeat (first | refine blk_drewN ?_ _ | refine blk_drew ?_ | refine blk_alloc ?_ _)); refine blk_far ?_ NB368_370.out _; (with_reducible repeat (first | refine blk_drewN ?_ _ | refine blk_drew ?_ | refine blk_alloc ?_ _)); exact BK368.out⟩, ⟨by (with_reducible repeat (first | refine blk_drewN ?_ _ | refine blk_drew ?_ | refine blk_alloc ?_ _)); refine blk_far ?_ NB369_370.out _; (with_reducible repeat (first | refine blk_drewN ?_ _ | refine blk_drew ?_ | refine blk_alloc ?_ _)); exact BK369.out⟩, ⟨by (with_reducible repeat (first | refine blk_drewN ?_ _ | refine blk_drew ?_ | refine blk_alloc ?_ _)); refine blk_put (cs := #[.int .i64 x371000_4, .int .i64 0, .int .i64 0, .int .i64 0, .int .i64 0, .int .i64 0]) ?_ 1 _ rfl; (with_reducible repeat (first | refine blk_drewN ?_ _ | refine blk_drew ?_ | refine blk_alloc ?_ _)); exact BK370.out⟩, ⟨(fB5 GE367 GE368 GE369 GE370)⟩⟩
      ·replace c36 := Bool.eq_false_iff.mpr c36
       subst c36
       rw [if_neg (show ¬ (false = true) by decide)] at H
       have H' := Aside0.mk H
       clear H
       go_wp2
       go_meet
       case rel => exact ⟨_, (0), H', ⟨by have := HJ4.out; have := HJ26.out; first | omega | exact Nat.le_refl _⟩, ⟨(fA1 BK367)⟩, ⟨(fA1 BK368)⟩, ⟨(fA1 BK369)⟩, ⟨(fA1 BK370)⟩, ⟨(fB5 GE367 GE368 GE369 GE370)⟩⟩
     case rest =>
      clear HC35
      try clear c1
      try clear c2
      try clear p2
      try clear c3
      try clear c10
      try clear c11
      try clear c12
      try clear c14
      try clear c15
      try clear c22
      try clear c22b0
      try clear c22b1
      try clear c23
      try clear c24
      try clear c25
      try clear c28
      try clear c28b0
      try clear c28b1
      try clear c33
      try clear c34
      try clear c36
      try clear c37
      try clear c38
      try clear c39
      try clear hcz13_0
      try clear hcz13_1
      try clear hcz16_0
      try clear hcz16_1
      try clear hcz18_0
      try clear hcz18_1
      try clear hcz19_0
      try clear hcz19_1
      try clear hcz21_0
      try clear hcz21_1
      try clear hcz26_0
      try clear hcz26_1
      try clear hcz26_2
      try clear hcz26_3
      try clear hcz26_4
      try clear hcz26_5
      try clear hcz40_0
      try clear hcz40_1
      try clear hcz40_2
      try clear hcz40_3
      try clear hcz40_4
      try clear hcz40_5
      try clear hfz13_0
      try clear hfz13_1
      try clear hfz16_0
      try clear hfz16_1
      try clear hfz18_0
      try clear hfz18_1
      try clear hfz19_0
      try clear hfz19_1
      try clear hfz21_0
      try clear hfz21_1
      try clear hfz26_0
      try clear hfz26_1
      try clear hfz26_2
      try clear hfz26_3
      try clear hfz26_4
      try clear hfz26_5
      try clear hfz40_0
      try clear hfz40_1
      try clear hfz40_2
      try clear hfz40_3
      try clear hfz40_4
      try clear hfz40_5
      try clear p2
      obtain ⟨kq, x371001_34, HA, HJ34, BK367, BK368, BK369, BK370, HB⟩ := hcut
      cases kq with
      | zero => exact absurd HA.out (by simp [conciergeref15_Keys.j2])
      | succ kj34 =>
       have H := HA.out
       clear HA
       simp only [conciergeref15_Keys.j2] at H
       have HC41 := Aside0.mk H
       clear H
       go_upto_region 8 with (fail)
       go_cut [48] (fun v48 wc => ∃ (kq : Nat) (x48_40 : Bool), v48 = .bool x48_40 ∧ Aside0 (conciergeref15_Keys.j3 kq t372 x48_40 a1_0 a1_1 x371000_4 x371001_34 0 0 0 0 = some (r1, r2, r3, r4, r5, r6)) ∧ Aside0 (kq ≤ kj34) ∧ Aside0 (wc.heap[gb367]? = some (.cells #[(.slice A0_0 l0_0.length c0_0), (.slice A0_1 l0_1.length c0_1)] 28 (0, 0))) ∧ Aside0 (wc.heap[gb368]? = some (.cells #[.string a1_0, .string a1_1] 34 (0, 0))) ∧ Aside0 (wc.heap[gb369]? = some (.cells #[.int .i64 0, .int .i64 0, .int .i64 0, .int .i64 0, .int .i64 0, .int .i64 0] 35 (0, 0))) ∧ Aside0 (wc.heap[gb370]? = some (.cells #[.int .i64 x371000_4, .int .i64 x371001_34, .int .i64 0, .int .i64 0, .int .i64 0, .int .i64 0] 35 (0, 0))) ∧ Aside0 (Below w.heap.size w wc))
       case first =>
        have H := HC41.out
        clear HC41
        by_cases c42 : a1_1.toList = ([] : List UInt8)
        ·rw [if_pos c42] at H
         have c42b0 : (a1_1.toList == ([] : List UInt8)) = true := beq_iff_eq.mpr c42
         have c42e : a1_1.toList.isEmpty = true := by simpa using c42b0
         have c42b1 : (a1_1.toList != ([] : List UInt8)) = false := bne_eq_false_iff_eq.mpr c42
         clear c42
         (first | rw [c42b0] | rw [c42e] | (simp only [i64_w, i32_w]; rw [c42b0]) | skip)
         have H' := Aside0.mk H
         clear H
         have hnb43 := NB368_367.out
         have hnc43 := NB367_368.out
         have hnb44 := NB368_369.out
         have hnc44 := NB369_368.out
         have hnb45 := NB368_370.out
         have hnc45 := NB370_368.out
         have hcz46_0 : wc.cell? ⟨gb368, 0, none⟩ = some (.string a1_0) := (blk_cell BK368.out 0).trans rfl
         have hcz46_1 : wc.cell? ⟨gb368, 1, none⟩ = some (.string a1_1) := (blk_cell BK368.out 1).trans rfl
         have hfz46_0 := blk_frozen BK368.out 0
         have hfz46_1 := blk_frozen BK368.out 1
         go_wp2
         go_meet
         case rel => exact ⟨_, (true), s1_, H', ⟨by have := HJ4.out; have := HJ26.out; have := HJ34.out; first | omega | exact Nat.le_refl _⟩, ⟨(fA1 BK367)⟩, ⟨(fA1 BK368)⟩, ⟨(fA1 BK369)⟩, ⟨(fA1 BK370)⟩, ⟨(fB5 GE367 GE368 GE369 GE370)⟩⟩
        ·rw [if_neg c42] at H
         have c42b0 : (a1_1.toList == ([] : List UInt8)) = false := beq_eq_false_iff_ne.mpr c42
         have c42e : a1_1.toList.isEmpty = false := by simpa using c42b0
         have c42b1 : (a1_1.toList != ([] : List UInt8)) = true := bne_iff_ne.mpr c42
         (first | rw [c42b0] | rw [c42e] | (simp only [i64_w, i32_w]; rw [c42b0]) | skip)
         have H' := Aside0.mk H
         clear H
         have hnb47 := NB368_367.out
         have hnc47 := NB367_368.out
         have hnb48 := NB368_369.out
         have hnc48 := NB369_368.out
         have hnb49 := NB368_370.out
         have hnc49 := NB370_368.out
         have hcz50_0 : wc.cell? ⟨gb368, 0, none⟩ = some (.string a1_0) := (blk_cell BK368.out 0).trans rfl
         have hcz50_1 : wc.cell? ⟨gb368, 1, none⟩ = some (.string a1_1) := (blk_cell BK368.out 1).trans rfl
         have hfz50_0 := blk_frozen BK368.out 0
         have hfz50_1 := blk_frozen BK368.out 1
         go_wp2
         go_meet
         case rel => exact ⟨_, ((t371 != t373)), s1_, H', ⟨by have := HJ4.out; have := HJ26.out; have := HJ34.out; first | omega | exact Nat.le_refl _⟩, ⟨(fA1 BK367)⟩, ⟨(fA1 BK368)⟩, ⟨(fA1 BK369)⟩, ⟨(fA1 BK370)⟩, ⟨(fB5 GE367 GE368 GE369 GE370)⟩⟩
       case rest =>
        clear HC41
        try clear c1
        try clear c2
        try clear p2
        try clear c3
        try clear c4
        try clear c10
        try clear c11
        try clear c12
        try clear c14
        try clear c15
        try clear c22
        try clear c22b0
        try clear c22b1
        try clear c23
        try clear c24
        try clear c25
        try clear c28
        try clear c28b0
        try clear c28b1
        try clear c33
        try clear c34
        try clear c36
        try clear c37
        try clear c38
        try clear c39
        try clear c42
        try clear c42b0
        try clear c42b1
        try clear c43
        try clear c44
        try clear c45
        try clear c47
        try clear c48
        try clear c49
        try clear hcz13_0
        try clear hcz13_1
        try clear hcz16_0
        try clear hcz16_1
        try clear hcz18_0
        try clear hcz18_1
        try clear hcz19_0
        try clear hcz19_1
        try clear hcz21_0
        try clear hcz21_1
        try clear hcz26_0
        try clear hcz26_1
        try clear hcz26_2
        try clear hcz26_3
        try clear hcz26_4
        try clear hcz26_5
        try clear hcz40_0
        try clear hcz40_1
        try clear hcz40_2
        try clear hcz40_3
        try clear hcz40_4
        try clear hcz40_5
        try clear hcz46_0
        try clear hcz46_1
        try clear hcz50_0
        try clear hcz50_1
        try clear hfz13_0
        try clear hfz13_1
        try clear hfz16_0
        try clear hfz16_1
        try clear hfz18_0
        try clear hfz18_1
        try clear hfz19_0
        try clear hfz19_1
        try clear hfz21_0
        try clear hfz21_1
        try clear hfz26_0
        try clear hfz26_1
        try clear hfz26_2
        try clear hfz26_3
        try clear hfz26_4
        try clear hfz26_5
        try clear hfz40_0
        try clear hfz40_1
        try clear hfz40_2
        try clear hfz40_3
        try clear hfz40_4
        try clear hfz40_5
        try clear hfz46_0
        try clear hfz46_1
        try clear hfz50_0
        try clear hfz50_1
        try clear p2
        obtain ⟨kq, x48_40, rfl, HA, HJ40, BK367, BK368, BK369, BK370, HB⟩ := hcut
        cases kq with
        | zero => exact absurd HA.out (by simp [conciergeref15_Keys.j3])
        | succ kj40 =>
         have H := HA.out
         clear HA
         simp only [conciergeref15_Keys.j3] at H
         by_cases c51 : x48_40 = true
         ·subst c51
          rw [if_pos rfl] at H
          replace H := Option.bind_eq_some_iff.mp H
          obtain ⟨t377, A520, H⟩ := H
          have A52 := Aside0.mk A520
          clear A520
          replace H := Option.bind_eq_some_iff.mp H
          obtain ⟨t378, A530, H⟩ := H
          have A53 := Aside0.mk A530
          clear A530
          simp only [Option.some.injEq, Prod.mk.injEq] at H
          obtain ⟨rfl, rfl, rfl, rfl, rfl, rfl⟩ := H
          have hnb54 := NB370_367.out
          have hnc54 := NB367_370.out
          have hnb55 := NB370_368.out
          have hnc55 := NB368_370.out
          have hnb56 := NB370_369.out
          have hnc56 := NB369_370.out
          have hcz57_0 : wc.cell? ⟨gb370, 0, none⟩ = some (.int .i64 x371000_4) := (blk_cell BK370.out 0).trans rfl
          have hcz57_1 : wc.cell? ⟨gb370, 1, none⟩ = some (.int .i64 x371001_34) := (blk_cell BK370.out 1).trans rfl
          have hcz57_2 : wc.cell? ⟨gb370, 2, none⟩ = some (.int .i64 0) := (blk_cell BK370.out 2).trans rfl
          have hcz57_3 : wc.cell? ⟨gb370, 3, none⟩ = some (.int .i64 0) := (blk_cell BK370.out 3).trans rfl
          have hcz57_4 : wc.cell? ⟨gb370, 4, none⟩ = some (.int .i64 0) := (blk_cell BK370.out 4).trans rfl
          have hcz57_5 : wc.cell? ⟨gb370, 5, none⟩ = some (.int .i64 0) := (blk_cell BK370.out 5).trans rfl
          have hfz57_0 := blk_frozen BK370.out 0
          have hfz57_1 := blk_frozen BK370.out 1
          have hfz57_2 := blk_frozen BK370.out 2
          have hfz57_3 := blk_frozen BK370.out 3
          have hfz57_4 := blk_frozen BK370.out 4
          have hfz57_5 := blk_frozen BK370.out 5
          have hnb58 := NB368_367.out
          have hnc58 := NB367_368.out
          have hnb59 := NB368_369.out
          have hnc59 := NB369_368.out
          have hcz60_0 : wc.cell? ⟨gb368, 0, none⟩ = some (.string a1_0) := (blk_cell BK368.out 0).trans rfl
          have hcz60_1 : wc.cell? ⟨gb368, 1, none⟩ = some (.string a1_1) := (blk_cell BK368.out 1).trans rfl
          have hfz60_0 := blk_frozen BK368.out 0
          have hfz60_1 := blk_frozen BK368.out 1
          go_wp2_with (first | ((with_reducible refine gate_callee (f := 34) rfl ?_); refine goesL_ (some 55) rfl rfl Try.func34 (by kernel_rfl) rfl #[.string a1_0] rfl (by (try simp only [List.map_toArray, List.map_cons, List.map_nil]); first | done | rfl | (simp only [List.length_drop, List.length_take]; rfl) | (simp only [*]; rfl)) ?_; (with_reducible refine (conciergeref15_Scope.calls a1_0 t377 _ A52.out).mono ?_); rintro e w61 ⟨rfl, hb⟩; refine ⟨_, rfl, ?_⟩; have n0_ := Aside0.mk (blk_below (g := gb367) (o := .cells #[.slice A0_0 l0_0.length c0_0, .slice A0_1 l0_1.length c0_1] 28 (0, 0)) (by (with_reducible repeat (first | refine blk_drewN ?_ _ | refine blk_drew ?_ | refine blk_alloc ?_ _)); refine blk_far ?_ NB367_370.out _; (with_reducible repeat (first | refine blk_drewN ?_ _ | refine blk_drew ?_ | refine blk_alloc ?_ _)); refine blk_far ?_ NB367_370.out _; (with_reducible repeat (first | refine blk_drewN ?_ _ | refine blk_drew ?_ | refine blk_alloc ?_ _)); exact BK367.out) hb); have n1_ := Aside0.mk (blk_below (g := gb368) (o := .cells #[.string a1_0, .string a1_1] 34 (0, 0)) (by (with_reducible repeat (first | refine blk_drewN ?_ _ | refine blk_drew ?_ | refine blk_alloc ?_ _)); refine blk_far ?_ NB368_370.out _; (with_reducible repeat (first | refine blk_drewN ?_ _ | refine blk_drew ?_ | refine blk_alloc ?_ _)); refine blk_far ?_ NB368_370.out _; (with_reducible repeat (first | refine blk_drewN ?_ _ | refine blk_drew ?_ | refine blk_alloc ?_ _)); exact BK368.out) hb); have n2_ := Aside0.mk (blk_below (g := gb369) (o := .cells #[.int .i64 0, .int .i64 0, .int .i64 0, .int .i64 0, .int .i64 0, .int .i64 0] 35 (0, 0)) (by (with_reducible repeat (first | refine blk_drewN ?_ _ | refine blk_drew ?_ | refine blk_alloc ?_ _)); refine blk_far ?_ NB369_370.out _; (with_reducible repeat (first | refine blk_drewN ?_ _ | refine blk_drew ?_ | refine blk_alloc ?_ _)); refine blk_far ?_ NB369_370.out _; (with_reducible repeat (first | refine blk_drewN ?_ _ | refine blk_drew ?_ | refine blk_alloc ?_ _)); exact BK369.out) hb); have n3_ := Aside0.mk (blk_below (g := gb370) (o := .cells #[.int .i64 x371000_4, .int .i64 x371001_34, .int .i64 1, .int .i64 (wrap64 (-t372)), .int .i64 0, .int .i64 0] 35 (0, 0)) (by (with_reducible repeat (first | refine blk_drewN ?_ _ | refine blk_drew ?_ | refine blk_alloc ?_ _)); refine blk_put (cs := #[.int .i64 x371000_4, .int .i64 x371001_34, .int .i64 1, .int .i64 0, .int .i64 0, .int .i64 0]) ?_ 3 _ rfl; (with_reducible repeat (first | refine blk_drewN ?_ _ | refine blk_drew ?_ | refine blk_alloc ?_ _)); refine blk_put (cs := #[.int .i64 x371000_4, .int .i64 x371001_34, .int .i64 0, .int .i64 0, .int .i64 0, .int .i64 0]) ?_ 2 _ rfl; (with_reducible repeat (first | refine blk_drewN ?_ _ | refine blk_drew ?_ | refine blk_alloc ?_ _)); exact BK370.out) hb); have n4_ := Aside0.mk (below_step (fB5 GE367 GE368 GE369 GE370) hb); clear BK367; clear BK368; clear BK369; clear BK370; clear HB; have BK367 := n0_; have BK368 := n1_; have BK369 := n2_; have BK370 := n3_; have HB := n4_; clear n0_ n1_ n2_ n3_ n4_; (try clear hb); (try clear hb2); (try clear hk); (try clear hi); have hcz62_0 : w61.cell? ⟨gb370, 0, none⟩ = some (.int .i64 x371000_4) := (blk_cell BK370.out 0).trans rfl; have hcz62_1 : w61.cell? ⟨gb370, 1, none⟩ = some (.int .i64 x371001_34) := (blk_cell BK370.out 1).trans rfl; have hcz62_2 : w61.cell? ⟨gb370, 2, none⟩ = some (.int .i64 1) := (blk_cell BK370.out 2).trans rfl; have hcz62_3 : w61.cell? ⟨gb370, 3, none⟩ = some (.int .i64 (wrap64 (-t372))) := (blk_cell BK370.out 3).trans rfl; have hcz62_4 : w61.cell? ⟨gb370, 4, none⟩ = some (.int .i64 0) := (blk_cell BK370.out 4).trans rfl; have hcz62_5 : w61.cell? ⟨gb370, 5, none⟩ = some (.int .i64 0) := (blk_cell BK370.out 5).trans rfl; have hfz62_0 := blk_frozen BK370.out 0; have hfz62_1 := blk_frozen BK370.out 1; have hfz62_2 := blk_frozen BK370.out 2; have hfz62_3 := blk_frozen BK370.out 3; have hfz62_4 := blk_frozen BK370.out 4; have hfz62_5 := blk_frozen BK370.out 5; have hcz63_0 : w61.cell? ⟨gb368, 0, none⟩ = some (.string a1_0) := (blk_cell BK368.out 0).trans rfl; have hcz63_1 : w61.cell? ⟨gb368, 1, none⟩ = some (.string a1_1) := (blk_cell BK368.out 1).trans rfl; have hfz63_0 := blk_frozen BK368.out 0; have hfz63_1 := blk_frozen BK368.out 1) | ((with_reducible refine gate_callee (f := 35) rfl ?_); refine goesL_ (some 61) rfl rfl Try.func35 (by kernel_rfl) rfl #[.string a1_0, .string a1_1] rfl (by (try simp only [List.map_toArray, List.map_cons, List.map_nil]); first | done | rfl | (simp only [List.length_drop, List.length_take]; rfl) | (simp only [*]; rfl)) ?_; (with_reducible refine (conciergeref2_Common.calls kj40 a1_0 a1_1 t378 _ A53.out).mono ?_); rintro e w' ⟨rfl, ⟨nd, rfl⟩⟩; refine ⟨_, rfl, ?_⟩; have hnb64 := NB369_367.out; have hnc64 := NB367_369.out; have hcz65_0 : w61.cell? ⟨gb369, 0, none⟩ = some (.int .i64 0) := (blk_cell BK369.out 0).trans rfl; have hcz65_1 : w61.cell? ⟨gb369, 1, none⟩ = some (.int .i64 0) := (blk_cell BK369.out 1).trans rfl; have hcz65_2 : w61.cell? ⟨gb369, 2, none⟩ = some (.int .i64 0) := (blk_cell BK369.out 2).trans rfl; have hcz65_3 : w61.cell? ⟨gb369, 3, none⟩ = some (.int .i64 0) := (blk_cell BK369.out 3).trans rfl; have hcz65_4 : w61.cell? ⟨gb369, 4, none⟩ = some (.int .i64 0) := (blk_cell BK369.out 4).trans rfl; have hcz65_5 : w61.cell? ⟨gb369, 5, none⟩ = some (.int .i64 0) := (blk_cell BK369.out 5).trans rfl; have hfz65_0 := blk_frozen BK369.out 0; have hfz65_1 := blk_frozen BK369.out 1; have hfz65_2 := blk_frozen BK369.out 2; have hfz65_3 := blk_frozen BK369.out 3; have hfz65_4 := blk_frozen BK369.out 4; have hfz65_5 := blk_frozen BK369.out 5))
          refine bodyPost_ret (results_cell_row rfl _ _ gb369 35 #[.int .i64 x371000_4, .int .i64 x371001_34, .int .i64 1, .int .i64 (wrap64 (-t372)), .int .i64 t377, .int .i64 (wrap64 (-t378))] (0, 0) _ rfl (by (with_reducible repeat (first | refine blk_drewN ?_ _ | refine blk_drew ?_ | refine blk_alloc ?_ _)); refine blk_put (cs := #[.int .i64 x371000_4, .int .i64 x371001_34, .int .i64 1, .int .i64 (wrap64 (-t372)), .int .i64 t377, .int .i64 0]) ?_ 5 _ rfl; (with_reducible repeat (first | refine blk_drewN ?_ _ | refine blk_drew ?_ | refine blk_alloc ?_ _)); refine blk_put (cs := #[.int .i64 x371000_4, .int .i64 x371001_34, .int .i64 1, .int .i64 (wrap64 (-t372)), .int .i64 0, .int .i64 0]) ?_ 4 _ rfl; (with_reducible repeat (first | refine blk_drewN ?_ _ | refine blk_drew ?_ | refine blk_alloc ?_ _)); refine blk_put (cs := #[.int .i64 x371000_4, .int .i64 x371001_34, .int .i64 1, .int .i64 0, .int .i64 0, .int .i64 0]) ?_ 3 _ rfl; (with_reducible repeat (first | refine blk_drewN ?_ _ | refine blk_drew ?_ | refine blk_alloc ?_ _)); refine blk_put (cs := #[.int .i64 x371000_4, .int .i64 x371001_34, .int .i64 0, .int .i64 0, .int .i64 0, .int .i64 0]) ?_ 2 _ rfl; (with_reducible repeat (first | refine blk_drewN ?_ _ | refine blk_drew ?_ | refine blk_alloc ?_ _)); refine blk_put (cs := #[.int .i64 x371000_4, .int .i64 0, .int .i64 0, .int .i64 0, .int .i64 0, .int .i64 0]) ?_ 1 _ rfl; (with_reducible repeat (first | refine blk_drewN ?_ _ | refine blk_drew ?_ | refine blk_alloc ?_ _)); refine blk_put (cs := #[.int .i64 0, .int .i64 0, .int .i64 0, .int .i64 0, .int .i64 0, .int .i64 0]) ?_ 0 _ rfl; (with_reducible repeat (first | refine blk_drewN ?_ _ | refine blk_drew ?_ | refine blk_alloc ?_ _)); refine blk_far ?_ NB369_370.out _; (with_reducible repeat (first | refine blk_drewN ?_ _ | refine blk_drew ?_ | refine blk_alloc ?_ _)); refine blk_far ?_ NB369_370.out _; (with_reducible repeat (first | refine blk_drewN ?_ _ | refine blk_drew ?_ | refine blk_alloc ?_ _)); exact BK369.out) Try.underlying35 rfl (by kernel_rfl)) rfl ?_
          exact ⟨by first | rfl | (simp [errW_none, errW_some] <;> rfl) | (simp [*, errW_none, errW_some] <;> rfl), (fB5 GE367 GE368 GE369 GE370)⟩
         ·replace c51 := Bool.eq_false_iff.mpr c51
          subst c51
          rw [if_neg (show ¬ (false = true) by decide)] at H
          replace H := Option.bind_eq_some_iff.mp H
          obtain ⟨t379, A660, H⟩ := H
          have A66 := Aside0.mk A660
          clear A660
          replace H := Option.bind_eq_some_iff.mp H
          obtain ⟨t380, A670, H⟩ := H
          have A67 := Aside0.mk A670
          clear A670
          simp only [Option.some.injEq, Prod.mk.injEq] at H
          obtain ⟨rfl, rfl, rfl, rfl, rfl, rfl⟩ := H
          have hnb68 := NB370_367.out
          have hnc68 := NB367_370.out
          have hnb69 := NB370_368.out
          have hnc69 := NB368_370.out
          have hnb70 := NB370_369.out
          have hnc70 := NB369_370.out
          have hcz71_0 : wc.cell? ⟨gb370, 0, none⟩ = some (.int .i64 x371000_4) := (blk_cell BK370.out 0).trans rfl
          have hcz71_1 : wc.cell? ⟨gb370, 1, none⟩ = some (.int .i64 x371001_34) := (blk_cell BK370.out 1).trans rfl
          have hcz71_2 : wc.cell? ⟨gb370, 2, none⟩ = some (.int .i64 0) := (blk_cell BK370.out 2).trans rfl
          have hcz71_3 : wc.cell? ⟨gb370, 3, none⟩ = some (.int .i64 0) := (blk_cell BK370.out 3).trans rfl
          have hcz71_4 : wc.cell? ⟨gb370, 4, none⟩ = some (.int .i64 0) := (blk_cell BK370.out 4).trans rfl
          have hcz71_5 : wc.cell? ⟨gb370, 5, none⟩ = some (.int .i64 0) := (blk_cell BK370.out 5).trans rfl
          have hfz71_0 := blk_frozen BK370.out 0
          have hfz71_1 := blk_frozen BK370.out 1
          have hfz71_2 := blk_frozen BK370.out 2
          have hfz71_3 := blk_frozen BK370.out 3
          have hfz71_4 := blk_frozen BK370.out 4
          have hfz71_5 := blk_frozen BK370.out 5
          have hnb72 := NB368_367.out
          have hnc72 := NB367_368.out
          have hnb73 := NB368_369.out
          have hnc73 := NB369_368.out
          have hcz74_0 : wc.cell? ⟨gb368, 0, none⟩ = some (.string a1_0) := (blk_cell BK368.out 0).trans rfl
          have hcz74_1 : wc.cell? ⟨gb368, 1, none⟩ = some (.string a1_1) := (blk_cell BK368.out 1).trans rfl
          have hfz74_0 := blk_frozen BK368.out 0
          have hfz74_1 := blk_frozen BK368.out 1
          go_wp2_with (first | ((with_reducible refine gate_callee (f := 34) rfl ?_); refine goesL_ (some 55) rfl rfl Try.func34 (by kernel_rfl) rfl #[.string a1_0] rfl (by (try simp only [List.map_toArray, List.map_cons, List.map_nil]); first | done | rfl | (simp only [List.length_drop, List.length_take]; rfl) | (simp only [*]; rfl)) ?_; (with_reducible refine (conciergeref15_Scope.calls a1_0 t379 _ A66.out).mono ?_); rintro e w75 ⟨rfl, hb⟩; refine ⟨_, rfl, ?_⟩; have n0_ := Aside0.mk (blk_below (g := gb367) (o := .cells #[.slice A0_0 l0_0.length c0_0, .slice A0_1 l0_1.length c0_1] 28 (0, 0)) (by (with_reducible repeat (first | refine blk_drewN ?_ _ | refine blk_drew ?_ | refine blk_alloc ?_ _)); refine blk_far ?_ NB367_370.out _; (with_reducible repeat (first | refine blk_drewN ?_ _ | refine blk_drew ?_ | refine blk_alloc ?_ _)); exact BK367.out) hb); have n1_ := Aside0.mk (blk_below (g := gb368) (o := .cells #[.string a1_0, .string a1_1] 34 (0, 0)) (by (with_reducible repeat (first | refine blk_drewN ?_ _ | refine blk_drew ?_ | refine blk_alloc ?_ _)); refine blk_far ?_ NB368_370.out _; (with_reducible repeat (first | refine blk_drewN ?_ _ | refine blk_drew ?_ | refine blk_alloc ?_ _)); exact BK368.out) hb); have n2_ := Aside0.mk (blk_below (g := gb369) (o := .cells #[.int .i64 0, .int .i64 0, .int .i64 0, .int .i64 0, .int .i64 0, .int .i64 0] 35 (0, 0)) (by (with_reducible repeat (first | refine blk_drewN ?_ _ | refine blk_drew ?_ | refine blk_alloc ?_ _)); refine blk_far ?_ NB369_370.out _; (with_reducible repeat (first | refine blk_drewN ?_ _ | refine blk_drew ?_ | refine blk_alloc ?_ _)); exact BK369.out) hb); have n3_ := Aside0.mk (blk_below (g := gb370) (o := .cells #[.int .i64 x371000_4, .int .i64 x371001_34, .int .i64 0, .int .i64 (wrap64 (-t372)), .int .i64 0, .int .i64 0] 35 (0, 0)) (by (with_reducible repeat (first | refine blk_drewN ?_ _ | refine blk_drew ?_ | refine blk_alloc ?_ _)); refine blk_put (cs := #[.int .i64 x371000_4, .int .i64 x371001_34, .int .i64 0, .int .i64 0, .int .i64 0, .int .i64 0]) ?_ 3 _ rfl; (with_reducible repeat (first | refine blk_drewN ?_ _ | refine blk_drew ?_ | refine blk_alloc ?_ _)); exact BK370.out) hb); have n4_ := Aside0.mk (below_step (fB5 GE367 GE368 GE369 GE370) hb); clear BK367; clear BK368; clear BK369; clear BK370; clear HB; have BK367 := n0_; have BK368 := n1_; have BK369 := n2_; have BK370 := n3_; have HB := n4_; clear n0_ n1_ n2_ n3_ n4_; (try clear hb); (try clear hb2); (try clear hk); (try clear hi); have hcz76_0 : w75.cell? ⟨gb370, 0, none⟩ = some (.int .i64 x371000_4) := (blk_cell BK370.out 0).trans rfl; have hcz76_1 : w75.cell? ⟨gb370, 1, none⟩ = some (.int .i64 x371001_34) := (blk_cell BK370.out 1).trans rfl; have hcz76_2 : w75.cell? ⟨gb370, 2, none⟩ = some (.int .i64 0) := (blk_cell BK370.out 2).trans rfl; have hcz76_3 : w75.cell? ⟨gb370, 3, none⟩ = some (.int .i64 (wrap64 (-t372))) := (blk_cell BK370.out 3).trans rfl; have hcz76_4 : w75.cell? ⟨gb370, 4, none⟩ = some (.int .i64 0) := (blk_cell BK370.out 4).trans rfl; have hcz76_5 : w75.cell? ⟨gb370, 5, none⟩ = some (.int .i64 0) := (blk_cell BK370.out 5).trans rfl; have hfz76_0 := blk_frozen BK370.out 0; have hfz76_1 := blk_frozen BK370.out 1; have hfz76_2 := blk_frozen BK370.out 2; have hfz76_3 := blk_frozen BK370.out 3; have hfz76_4 := blk_frozen BK370.out 4; have hfz76_5 := blk_frozen BK370.out 5; have hcz77_0 : w75.cell? ⟨gb368, 0, none⟩ = some (.string a1_0) := (blk_cell BK368.out 0).trans rfl; have hcz77_1 : w75.cell? ⟨gb368, 1, none⟩ = some (.string a1_1) := (blk_cell BK368.out 1).trans rfl; have hfz77_0 := blk_frozen BK368.out 0; have hfz77_1 := blk_frozen BK368.out 1) | ((with_reducible refine gate_callee (f := 35) rfl ?_); refine goesL_ (some 61) rfl rfl Try.func35 (by kernel_rfl) rfl #[.string a1_0, .string a1_1] rfl (by (try simp only [List.map_toArray, List.map_cons, List.map_nil]); first | done | rfl | (simp only [List.length_drop, List.length_take]; rfl) | (simp only [*]; rfl)) ?_; (with_reducible refine (conciergeref2_Common.calls kj40 a1_0 a1_1 t380 _ A67.out).mono ?_); rintro e w' ⟨rfl, ⟨nd, rfl⟩⟩; refine ⟨_, rfl, ?_⟩; have hnb78 := NB369_367.out; have hnc78 := NB367_369.out; have hcz79_0 : w75.cell? ⟨gb369, 0, none⟩ = some (.int .i64 0) := (blk_cell BK369.out 0).trans rfl; have hcz79_1 : w75.cell? ⟨gb369, 1, none⟩ = some (.int .i64 0) := (blk_cell BK369.out 1).trans rfl; have hcz79_2 : w75.cell? ⟨gb369, 2, none⟩ = some (.int .i64 0) := (blk_cell BK369.out 2).trans rfl; have hcz79_3 : w75.cell? ⟨gb369, 3, none⟩ = some (.int .i64 0) := (blk_cell BK369.out 3).trans rfl; have hcz79_4 : w75.cell? ⟨gb369, 4, none⟩ = some (.int .i64 0) := (blk_cell BK369.out 4).trans rfl; have hcz79_5 : w75.cell? ⟨gb369, 5, none⟩ = some (.int .i64 0) := (blk_cell BK369.out 5).trans rfl; have hfz79_0 := blk_frozen BK369.out 0; have hfz79_1 := blk_frozen BK369.out 1; have hfz79_2 := blk_frozen BK369.out 2; have hfz79_3 := blk_frozen BK369.out 3; have hfz79_4 := blk_frozen BK369.out 4; have hfz79_5 := blk_frozen BK369.out 5))
          refine bodyPost_ret (results_cell_row rfl _ _ gb369 35 #[.int .i64 x371000_4, .int .i64 x371001_34, .int .i64 0, .int .i64 (wrap64 (-t372)), .int .i64 t379, .int .i64 (wrap64 (-t380))] (0, 0) _ rfl (by (with_reducible repeat (first | refine blk_drewN ?_ _ | refine blk_drew ?_ | refine blk_alloc ?_ _)); refine blk_put (cs := #[.int .i64 x371000_4, .int .i64 x371001_34, .int .i64 0, .int .i64 (wrap64 (-t372)), .int .i64 t379, .int .i64 0]) ?_ 5 _ rfl; (with_reducible repeat (first | refine blk_drewN ?_ _ | refine blk_drew ?_ | refine blk_alloc ?_ _)); refine blk_put (cs := #[.int .i64 x371000_4, .int .i64 x371001_34, .int .i64 0, .int .i64 (wrap64 (-t372)), .int .i64 0, .int .i64 0]) ?_ 4 _ rfl; (with_reducible repeat (first | refine blk_drewN ?_ _ | refine blk_drew ?_ | refine blk_alloc ?_ _)); refine blk_put (cs := #[.int .i64 x371000_4, .int .i64 x371001_34, .int .i64 0, .int .i64 0, .int .i64 0, .int .i64 0]) ?_ 3 _ rfl; (with_reducible repeat (first | refine blk_drewN ?_ _ | refine blk_drew ?_ | refine blk_alloc ?_ _)); refine blk_put (cs := #[.int .i64 x371000_4, .int .i64 x371001_34, .int .i64 0, .int .i64 0, .int .i64 0, .int .i64 0]) ?_ 2 _ rfl; (with_reducible repeat (first | refine blk_drewN ?_ _ | refine blk_drew ?_ | refine blk_alloc ?_ _)); refine blk_put (cs := #[.int .i64 x371000_4, .int .i64 0, .int .i64 0, .int .i64 0, .int .i64 0, .int .i64 0]) ?_ 1 _ rfl; (with_reducible repeat (first | refine blk_drewN ?_ _ | refine blk_drew ?_ | refine blk_alloc ?_ _)); refine blk_put (cs := #[.int .i64 0, .int .i64 0, .int .i64 0, .int .i64 0, .int .i64 0, .int .i64 0]) ?_ 0 _ rfl; (with_reducible repeat (first | refine blk_drewN ?_ _ | refine blk_drew ?_ | refine blk_alloc ?_ _)); refine blk_far ?_ NB369_370.out _; (with_reducible repeat (first | refine blk_drewN ?_ _ | refine blk_drew ?_ | refine blk_alloc ?_ _)); refine blk_far ?_ NB369_370.out _; (with_reducible repeat (first | refine blk_drewN ?_ _ | refine blk_drew ?_ | refine blk_alloc ?_ _)); exact BK369.out) Try.underlying35 rfl (by kernel_rfl)) rfl ?_
          exact ⟨by first | rfl | (simp [errW_none, errW_some] <;> rfl) | (simp [*, errW_none, errW_some] <;> rfl), (fB5 GE367 GE368 GE369 GE370)⟩
end Go.Proofs.Ytlfhahnceeoegaa.All
end
section
namespace Go.Proofs.Ytlfhahnceeoegaa.All
open Go.RowKit Go.Proofs.YtlfhahnceeoegaaW.PrintWords Go.Proofs.YtlfhahnceeoegaaW.PrintLast Go.Proofs.YtlfhahnceeoegaaW.PrintMore
set_option linter.unusedVariables false
set_option linter.unusedSimpArgs false
def ix6 (i a0 a1 a2 a3 a4 a5 : Int) : Int := if i = 0 then a0 else if i = 1 then a1 else if i = 2 then a2 else if i = 3 then a3 else if i = 4 then a4 else a5
theorem ix6_cell {w : World} {g T : Nat} {i a0 a1 a2 a3 a4 a5 : Int} (h : w.heap[g]? = some (.cells #[.int .i64 a0, .int .i64 a1, .int .i64 a2, .int .i64 a3, .int .i64 a4, .int .i64 a5] T (0, 0))) (h0 : 0 ≤ i) (h6 : i < 6) :
  w.cell? ⟨g, i.toNat, none⟩ = some (.int .i64 (ix6 i a0 a1 a2 a3 a4 a5)) := by
 have : i = 0 ∨ i = 1 ∨ i = 2 ∨ i = 3 ∨ i = 4 ∨ i = 5 := by omega
 rcases this with rfl | rfl | rfl | rfl | rfl | rfl
 ·exact (blk_cell h 0).trans rfl
 ·exact (blk_cell h 1).trans rfl
 ·exact (blk_cell h 2).trans rfl
 ·exact (blk_cell h 3).trans rfl
 ·exact (blk_cell h 4).trans rfl
 ·exact (blk_cell h 5).trans rfl
def conciergeref15_Less.l0 : Nat → Int → Int → Int → Int → Int → Int → Int → Int → Int → Int → Int → Int → Int → Option (Bool)
 | 0, _, _, _, _, _, _, _, _, _, _, _, _, _ => none
 | k + 1, x9, x152000, x152001, x152002, x152003, x152004, x152005, x153000, x153001, x153002, x153003, x153004, x153005 => if x9 < 6 then (if 0 ≤ x9 then (if ix6 x9 x152000 x152001 x152002 x152003 x152004 x152005 = ix6 x9 x153000 x153001 x153002 x153003 x153004 x153005 then (conciergeref15_Less.l0 k (wrap64 (x9 + 1)) x152000 x152001 x152002 x152003 x152004 x152005 x153000 x153001 x153002 x153003 x153004 x153005) else (some (decide (ix6 x9 x152000 x152001 x152002 x152003 x152004 x152005 < ix6 x9 x153000 x153001 x153002 x153003 x153004 x153005)))) else none) else (some false)
def conciergeref15_Less.f (k : Nat) (l0_0 : List (S52)) (l0_1 : List ByteArray) (a1_0 : ByteArray) (a1_1 : ByteArray) (a2_0 : ByteArray) (a2_1 : ByteArray) : Option (Bool) := (conciergeref15_Keys.f k l0_0 l0_1 a1_0 a1_1).bind fun bt139 => ((conciergeref15_Keys.f k l0_0 l0_1 a2_0 a2_1).bind fun bt145 => (conciergeref15_Less.l0 k 0 bt139.1 bt139.2.1 bt139.2.2.1 bt139.2.2.2.1 bt139.2.2.2.2.1 bt139.2.2.2.2.2 bt145.1 bt145.2.1 bt145.2.2.1 bt145.2.2.2.1 bt145.2.2.2.2.1 bt145.2.2.2.2.2))
def conciergeref15_Less.T1 : Bool × List (List Nat × List Nat) := (true, [([], []), ([], []), ([0, 1], [0, 1]), ([], []), ([], []), ([3, 4, 2], [3, 4]), ([], []), ([], []), ([6, 2, 5, 0, 1, 2, 6, 7], [2, 6]), ([7, 5, 8, 0, 1, 2, 3, 4, 5, 6, 7, 8], [5, 7])])
def conciergeref15_Less.B1 : List Nat := [0, 0, 3, 0, 0, 31, 0, 0, 255, 511]
theorem conciergeref15_Less.tab1 : rtab .any (opsOf Try.f28 1) = conciergeref15_Less.T1 := by kernel_rfl
theorem conciergeref15_Less.bits1 : waitsOk conciergeref15_Less.T1.2 conciergeref15_Less.B1 = true := by kernel_rfl
def conciergeref15_Less.T6 : Bool × List (List Nat × List Nat) := (true, [([], []), ([0], [0]), ([1], [1]), ([], []), ([3], [3]), ([4], [4]), ([2, 5], [2, 5]), ([6, 0, 1, 2, 3, 4, 5, 6], [6])])
def conciergeref15_Less.B6 : List Nat := [0, 1, 3, 0, 8, 24, 63, 127]
theorem conciergeref15_Less.tab6 : rtab .any (opsOf Try.f28 6) = conciergeref15_Less.T6 := by kernel_rfl
theorem conciergeref15_Less.bits6 : waitsOk conciergeref15_Less.T6.2 conciergeref15_Less.B6 = true := by kernel_rfl
set_option maxHeartbeats 8000000 in
set_option maxRecDepth 100000 in
theorem conciergeref15_Less.calls (k : Nat) (A0_0 : Option Addr) (c0_0 : Nat) (l0_0 : List (S52)) (A0_1 : Option Addr) (c0_1 : Nat) (l0_1 : List ByteArray) (a1_0 : ByteArray) (a1_1 : ByteArray) (a2_0 : ByteArray) (a2_1 : ByteArray) (r : Bool) (w : World) (hr0_0 : Kd.C k52 w A0_0 l0_0.length l0_0) (hc0_0 : l0_0.length ≤ c0_0) (hr0_1 : Kd.C Kd.string w A0_1 l0_1.length l0_1) (hc0_1 : l0_1.length ≤ c0_1) (h : conciergeref15_Less.f k l0_0 l0_1 a1_0 a1_1 a2_0 a2_1 = some r) :
  Calls Try.prog 28 #[.agg #[.slice A0_0 l0_0.length c0_0, .slice A0_1 l0_1.length c0_1], .agg #[.string a1_0, .string a1_1], .agg #[.string a2_0, .string a2_1]] w fun e w' => e = .returned (.bool r) ∧ Below w.heap.size w w' := by
 have hu28 := Try.underlying28
 have hu34 := Try.underlying34
 have hu35 := Try.underlying35
 have HR0_0 := Aside0.mk hr0_0
 have HC0_0 := Aside0.mk hc0_0
 clear hr0_0 hc0_0
 have HR0_1 := Aside0.mk hr0_1
 have HC0_1 := Aside0.mk hc0_1
 clear hr0_1 hc0_1
 have HB := Aside0.mk (Below.refl w.heap.size w)
 have H : ((conciergeref15_Keys.f k l0_0 l0_1 a1_0 a1_1).bind fun bt139 => ((conciergeref15_Keys.f k l0_0 l0_1 a2_0 a2_1).bind fun bt145 => (conciergeref15_Less.l0 k 0 bt139.1 bt139.2.1 bt139.2.2.1 bt139.2.2.2.1 bt139.2.2.2.2.1 bt139.2.2.2.2.2 bt145.1 bt145.2.1 bt145.2.2.1 bt145.2.2.2.1 bt145.2.2.2.2.1 bt145.2.2.2.2.2))) = some r := h
 clear h
 replace H := Option.bind_eq_some_iff.mp H
 obtain ⟨⟨t139, t140, t141, t142, t143, t144⟩, A40, H⟩ := H
 have A4 := Aside0.mk A40
 clear A40
 replace H := Option.bind_eq_some_iff.mp H
 obtain ⟨⟨t145, t146, t147, t148, t149, t150⟩, A50, H⟩ := H
 have A5 := Aside0.mk A50
 clear A50
 have H' := Aside0.mk H
 clear H
 go_enter Try.func28, Try.ntmps28
 try go_wp2_with (first | ((with_reducible refine gate_dst (N := 3) rfl ?_); refine box_event ?hg (N := 3) ?hd (cs := #[.slice A0_0 l0_0.length c0_0, .slice A0_1 l0_1.length c0_1]) (t := 28) ?hr ?_; (case hd => rfl); (case hg => rfl); (case hr => first | (go_simp; done) | (go_simp; rfl)); intro gb136 hg w6 hbox hb; have n0_ := Aside0.mk (below_step (fB0) hb); have n1_ := Aside0.mk (hbox); have n2_ := Aside0.mk ((by rw [hg]; exact (below_size (fB0)) : w.heap.size ≤ gb136)); have n3_ := Aside0.mk ((by rw [hg]; exact (below_size (fB0)) : w.heap.size ≤ gb136)); clear HB; have HB := n0_; have BK136 := n1_; have GW136 := n2_; have GE136 := n3_; clear n0_ n1_ n2_ n3_; clear hb hbox hg) | ((with_reducible refine gate_dst (N := 4) rfl ?_); refine box_event ?hg (N := 4) ?hd (cs := #[.string a1_0, .string a1_1]) (t := 34) ?hr ?_; (case hd => rfl); (case hg => rfl); (case hr => first | (go_simp; done) | (go_simp; rfl)); intro gb137 hg w7 hbox hb; have n0_ := Aside0.mk (blk_below (g := gb136) (o := .cells #[.slice A0_0 l0_0.length c0_0, .slice A0_1 l0_1.length c0_1] 28 (0, 0)) (fA1 BK136) hb); have n1_ := Aside0.mk (below_step (fB1 GE136) hb); have n2_ := Aside0.mk (hbox); have n3_ := Aside0.mk ((by rw [hg]; exact (below_size (fB1 GE136)) : w.heap.size ≤ gb137)); have n4_ := Aside0.mk ((by rw [hg]; exact (below_size (fB1 GE136)) : w.heap.size ≤ gb137)); have n5_ := Aside0.mk ((by rw [hg]; exact Nat.ne_of_lt (blk_lt (g := gb136) (o := .cells #[.slice A0_0 l0_0.length c0_0, .slice A0_1 l0_1.length c0_1] 28 (0, 0)) (fA1 BK136)) : gb136 ≠ gb137)); have n6_ := Aside0.mk ((by rw [hg]; exact Nat.ne_of_gt (blk_lt (g := gb136) (o := .cells #[.slice A0_0 l0_0.length c0_0, .slice A0_1 l0_1.length c0_1] 28 (0, 0)) (fA1 BK136)) : gb137 ≠ gb136)); clear BK136; clear HB; have BK136 := n0_; have HB := n1_; have BK137 := n2_; have GW137 := n3_; have GE137 := n4_; have NB136_137 := n5_; have NB137_136 := n6_; clear n0_ n1_ n2_ n3_ n4_ n5_ n6_; clear hb hbox hg) | ((with_reducible refine gate_dst (N := 5) rfl ?_); refine box_event ?hg (N := 5) ?hd (cs := #[.string a2_0, .string a2_1]) (t := 34) ?hr ?_; (case hd => rfl); (case hg => rfl); (case hr => first | (go_simp; done) | (go_simp; rfl)); intro gb138 hg w8 hbox hb; have n0_ := Aside0.mk (blk_below (g := gb136) (o := .cells #[.slice A0_0 l0_0.length c0_0, .slice A0_1 l0_1.length c0_1] 28 (0, 0)) (fA1 BK136) hb); have n1_ := Aside0.mk (blk_below (g := gb137) (o := .cells #[.string a1_0, .string a1_1] 34 (0, 0)) (fA1 BK137) hb); have n2_ := Aside0.mk (below_step (fB2 GE136 GE137) hb); have n3_ := Aside0.mk (hbox); have n4_ := Aside0.mk ((by rw [hg]; exact (below_size (fB2 GE136 GE137)) : w.heap.size ≤ gb138)); have n5_ := Aside0.mk ((by rw [hg]; exact (below_size (fB2 GE136 GE137)) : w.heap.size ≤ gb138)); have n6_ := Aside0.mk ((by rw [hg]; exact Nat.ne_of_lt (blk_lt (g := gb136) (o := .cells #[.slice A0_0 l0_0.length c0_0, .slice A0_1 l0_1.length c0_1] 28 (0, 0)) (fA1 BK136)) : gb136 ≠ gb138)); have n7_ := Aside0.mk ((by rw [hg]; exact Nat.ne_of_gt (blk_lt (g := gb136) (o := .cells #[.slice A0_0 l0_0.length c0_0, .slice A0_1 l0_1.length c0_1] 28 (0, 0)) (fA1 BK136)) : gb138 ≠ gb136)); have n8_ := Aside0.mk ((by rw [hg]; exact Nat.ne_of_lt (blk_lt (g := gb137) (o := .cells #[.string a1_0, .string a1_1] 34 (0, 0)) (fA1 BK137)) : gb137 ≠ gb138)); have n9_ := Aside0.mk ((by rw [hg]; exact Nat.ne_of_gt (blk_lt (g := gb137) (o := .cells #[.string a1_0, .string a1_1] 34 (0, 0)) (fA1 BK137)) : gb138 ≠ gb137)); clear BK136; clear BK137; clear HB; have BK136 := n0_; have BK137 := n1_; have HB := n2_; have BK138 := n3_; have GW138 := n4_; have GE138 := n5_; have NB136_138 := n6_; have NB138_136 := n7_; have NB137_138 := n8_; have NB138_137 := n9_; clear n0_ n1_ n2_ n3_ n4_ n5_ n6_ n7_ n8_ n9_; clear hb hbox hg))
 have n0_ := Aside0.mk (blk_drew BK136.out)
 have n1_ := Aside0.mk (blk_drew BK137.out)
 have n2_ := Aside0.mk (blk_drew BK138.out)
 have n3_ := Aside0.mk (below_drew1 HB.out)
 clear BK136
 clear BK137
 clear BK138
 clear HB
 have BK136 := n0_
 have BK137 := n1_
 have BK138 := n2_
 have HB := n3_
 clear n0_ n1_ n2_ n3_
 refine start_ (n := 10) (S := fun w' => True) (ds := []) #[false, false, false, false, false, false, false, false, false, false] (by kernel_rfl) rfl rfl trivial (fun hHeld => ?_); refine with_tabW conciergeref15_Less.tab1 conciergeref15_Less.bits1 (fun HT_ HW_ => ?_)
 generalize w8.drew = w9 at BK136 BK137 BK138 HB hHeld ⊢
 refine inv_at [0, 1, 2, 3, 4, 5, 6, 7, 8, 9] (fun a0_ b a w' => ∃ (gb151 : Nat) (gb152 : Nat) (m6_ : Value) (m7_ : Value), a = putSel a0_ b [(0, 10, .agg #[.slice A0_0 l0_0.length c0_0, .slice A0_1 l0_1.length c0_1]), (1, 11, .agg #[.string a1_0, .string a1_1]), (2, 12, .agg #[.int .i64 t139, .int .i64 t140, .int .i64 t141, .int .i64 t142, .int .i64 t143, .int .i64 t144]), (3, 13, .agg #[.slice A0_0 l0_0.length c0_0, .slice A0_1 l0_1.length c0_1]), (4, 14, .agg #[.string a2_0, .string a2_1]), (5, 15, .agg #[.int .i64 t145, .int .i64 t146, .int .i64 t147, .int .i64 t148, .int .i64 t149, .int .i64 t150]), (6, 7, m6_), (7, 8, m7_)] ∧ (w'.heap[gb136]? = some (.cells #[.slice A0_0 l0_0.length c0_0, .slice A0_1 l0_1.length c0_1] 28 (0, 0))) ∧ (w'.heap[gb137]? = some (.cells #[.string a1_0, .string a1_1] 34 (0, 0))) ∧ (w'.heap[gb138]? = some (.cells #[.string a2_0, .string a2_1] 34 (0, 0))) ∧ (Below w.heap.size w w') ∧ (b 6 = true → b 7 = true → gb152 ≠ gb151) ∧ (b 6 = true → b 7 = true → gb151 ≠ gb152) ∧ (b 6 = true → b 8 = false → w'.heap[gb151]? = some (.cells #[.int .i64 0, .int .i64 0, .int .i64 0, .int .i64 0, .int .i64 0, .int .i64 0] 35 (0, 0))) ∧ (b 6 = true → w.heap.size ≤ gb151) ∧ (b 6 = true → w.heap.size ≤ gb151) ∧ (b 6 = true → gb136 ≠ gb151) ∧ (b 6 = true → gb151 ≠ gb136) ∧ (b 6 = true → gb137 ≠ gb151) ∧ (b 6 = true → gb151 ≠ gb137) ∧ (b 6 = true → gb138 ≠ gb151) ∧ (b 6 = true → gb151 ≠ gb138) ∧ (b 7 = true → b 9 = false → w'.heap[gb152]? = some (.cells #[.int .i64 0, .int .i64 0, .int .i64 0, .int .i64 0, .int .i64 0, .int .i64 0] 35 (0, 0))) ∧ (b 7 = true → w.heap.size ≤ gb152) ∧ (b 7 = true → w.heap.size ≤ gb152) ∧ (b 7 = true → gb136 ≠ gb152) ∧ (b 7 = true → gb152 ≠ gb136) ∧ (b 7 = true → gb137 ≠ gb152) ∧ (b 7 = true → gb152 ≠ gb137) ∧ (b 7 = true → gb138 ≠ gb152) ∧ (b 7 = true → gb152 ≠ gb138) ∧ (b 8 = true → w'.heap[gb151]? = some (.cells #[.int .i64 t139, .int .i64 t140, .int .i64 t141, .int .i64 t142, .int .i64 t143, .int .i64 t144] 35 (0, 0))) ∧ (b 9 = true → w'.heap[gb152]? = some (.cells #[.int .i64 t145, .int .i64 t146, .int .i64 t147, .int .i64 t148, .int .i64 t149, .int .i64 t150] 35 (0, 0))) ∧ (b 6 = true → (m6_ : Value) = .pointer (some ⟨gb151, 0, none⟩)) ∧ (b 7 = true → (m7_ : Value) = .pointer (some ⟨gb152, 0, none⟩))) HT_.out HW_.out (by kernel_rfl) (by kernel_rfl) ?_ ?_ ?_
 ·exact ⟨0, 0, .bool false, .bool false, by simp only [putSel, Bool.false_eq_true, if_false], BK136.out, BK137.out, BK138.out, HB.out, fun h_ => absurd h_ (by decide), fun h_ => absurd h_ (by decide), fun h_ => absurd h_ (by decide), fun h_ => absurd h_ (by decide), fun h_ => absurd h_ (by decide), fun h_ => absurd h_ (by decide), fun h_ => absurd h_ (by decide), fun h_ => absurd h_ (by decide), fun h_ => absurd h_ (by decide), fun h_ => absurd h_ (by decide), fun h_ => absurd h_ (by decide), fun h_ => absurd h_ (by decide), fun h_ => absurd h_ (by decide), fun h_ => absurd h_ (by decide), fun h_ => absurd h_ (by decide), fun h_ => absurd h_ (by decide), fun h_ => absurd h_ (by decide), fun h_ => absurd h_ (by decide), fun h_ => absurd h_ (by decide), fun h_ => absurd h_ (by decide), fun h_ => absurd h_ (by decide), fun h_ => absurd h_ (by decide), fun h_ => absurd h_ (by decide), fun h_ => absurd h_ (by decide)⟩
 ·skip
  clear BK136 BK137 BK138 HB
  refine steps_cons ?_ ?_
  ·rintro b a w' ⟨gb151, gb152, m6_, m7_, ha, Q_BK136, Q_BK137, Q_BK138, Q_HB, Q_NB152_151, Q_NB151_152, Q_BK151, Q_GW151, Q_GE151, Q_NB136_151, Q_NB151_136, Q_NB137_151, Q_NB151_137, Q_NB138_151, Q_NB151_138, Q_BK152, Q_GW152, Q_GE152, Q_NB136_152, Q_NB152_136, Q_NB137_152, Q_NB152_137, Q_NB138_152, Q_NB152_138, Q_BK151_e8, Q_BK152_e9, Q_X6_, Q_X7_⟩ hb_ hon hoff
   refine ⟨_, rfl, fun K hK => ?_⟩
   have e3 : a.tmps[3]? = some (.pointer (some ⟨gb136, 0, none⟩)) := by rw [ha]; exact (putSel_off rfl).trans rfl
   replace ha := Aside0.mk ha
   have BK136 := Aside0.mk Q_BK136
   have BK137 := Aside0.mk Q_BK137
   have BK138 := Aside0.mk Q_BK138
   have HB := Aside0.mk Q_HB
   have hc0_ : w'.cell? ⟨gb136, 0, none⟩ = some (.slice A0_0 l0_0.length c0_0) := (blk_cell BK136.out 0).trans rfl
   have hc1_ : w'.cell? ⟨gb136, 1, none⟩ = some (.slice A0_1 l0_1.length c0_1) := (blk_cell BK136.out 1).trans rfl
   refine value_ (w1 := w') (v := .agg #[.slice A0_0 l0_0.length c0_0, .slice A0_1 l0_1.length c0_1]) (by rfl) rfl ?_ ?_
   ·go_simp
    (try simp only [i64_w])
    try rfl
   refine hK.out _ _ ⟨gb151, gb152, m6_, m7_, (by rw [ha.out]; exact putSel_upk 0 hb_ rfl rfl rfl), Q_BK136, Q_BK137, Q_BK138, Q_HB, Q_NB152_151, Q_NB151_152, Q_BK151, Q_GW151, Q_GE151, Q_NB136_151, Q_NB151_136, Q_NB137_151, Q_NB151_137, Q_NB138_151, Q_NB151_138, Q_BK152, Q_GW152, Q_GE152, Q_NB136_152, Q_NB152_136, Q_NB137_152, Q_NB152_137, Q_NB138_152, Q_NB152_138, fun h0_ => absurd ((hoff 8 (by kernel_rfl)).symm.trans h0_) (by decide), fun h0_ => absurd ((hoff 9 (by kernel_rfl)).symm.trans h0_) (by decide), Q_X6_, Q_X7_⟩
  refine steps_cons ?_ ?_
  ·rintro b a w' ⟨gb151, gb152, m6_, m7_, ha, Q_BK136, Q_BK137, Q_BK138, Q_HB, Q_NB152_151, Q_NB151_152, Q_BK151, Q_GW151, Q_GE151, Q_NB136_151, Q_NB151_136, Q_NB137_151, Q_NB151_137, Q_NB138_151, Q_NB151_138, Q_BK152, Q_GW152, Q_GE152, Q_NB136_152, Q_NB152_136, Q_NB137_152, Q_NB152_137, Q_NB138_152, Q_NB152_138, Q_BK151_e8, Q_BK152_e9, Q_X6_, Q_X7_⟩ hb_ hon hoff
   refine ⟨_, rfl, fun K hK => ?_⟩
   have e4 : a.tmps[4]? = some (.pointer (some ⟨gb137, 0, none⟩)) := by rw [ha]; exact (putSel_off rfl).trans rfl
   replace ha := Aside0.mk ha
   have BK136 := Aside0.mk Q_BK136
   have BK137 := Aside0.mk Q_BK137
   have BK138 := Aside0.mk Q_BK138
   have HB := Aside0.mk Q_HB
   have hc0_ : w'.cell? ⟨gb137, 0, none⟩ = some (.string a1_0) := (blk_cell BK137.out 0).trans rfl
   have hc1_ : w'.cell? ⟨gb137, 1, none⟩ = some (.string a1_1) := (blk_cell BK137.out 1).trans rfl
   refine value_ (w1 := w') (v := .agg #[.string a1_0, .string a1_1]) (by rfl) rfl ?_ ?_
   ·go_simp
    (try simp only [i64_w])
    try rfl
   refine hK.out _ _ ⟨gb151, gb152, m6_, m7_, (by rw [ha.out]; exact putSel_upk 1 hb_ rfl rfl rfl), Q_BK136, Q_BK137, Q_BK138, Q_HB, Q_NB152_151, Q_NB151_152, Q_BK151, Q_GW151, Q_GE151, Q_NB136_151, Q_NB151_136, Q_NB137_151, Q_NB151_137, Q_NB138_151, Q_NB151_138, Q_BK152, Q_GW152, Q_GE152, Q_NB136_152, Q_NB152_136, Q_NB137_152, Q_NB152_137, Q_NB138_152, Q_NB152_138, fun h0_ => absurd ((hoff 8 (by kernel_rfl)).symm.trans h0_) (by decide), fun h0_ => absurd ((hoff 9 (by kernel_rfl)).symm.trans h0_) (by decide), Q_X6_, Q_X7_⟩
  refine steps_cons ?_ ?_
  ·rintro b a w' ⟨gb151, gb152, m6_, m7_, ha, Q_BK136, Q_BK137, Q_BK138, Q_HB, Q_NB152_151, Q_NB151_152, Q_BK151, Q_GW151, Q_GE151, Q_NB136_151, Q_NB151_136, Q_NB137_151, Q_NB151_137, Q_NB138_151, Q_NB151_138, Q_BK152, Q_GW152, Q_GE152, Q_NB136_152, Q_NB152_136, Q_NB137_152, Q_NB152_137, Q_NB138_152, Q_NB152_138, Q_BK151_e8, Q_BK152_e9, Q_X6_, Q_X7_⟩ hb_ hon hoff
   refine ⟨_, rfl, fun K hK => ?_⟩
   have e10 : a.tmps[10]? = some (.agg #[.slice A0_0 l0_0.length c0_0, .slice A0_1 l0_1.length c0_1]) := by rw [ha]; exact putSel_on (e := (0, 10, .agg #[.slice A0_0 l0_0.length c0_0, .slice A0_1 l0_1.length c0_1])) 0 rfl rfl (hon 0 (by kernel_rfl)) rfl
   have e11 : a.tmps[11]? = some (.agg #[.string a1_0, .string a1_1]) := by rw [ha]; exact putSel_on (e := (1, 11, .agg #[.string a1_0, .string a1_1])) 1 rfl rfl (hon 1 (by kernel_rfl)) rfl
   replace ha := Aside0.mk ha
   have BK136 := Aside0.mk Q_BK136
   have BK137 := Aside0.mk Q_BK137
   have BK138 := Aside0.mk Q_BK138
   have HB := Aside0.mk Q_HB
   refine goes_ Try.func14 (by kernel_rfl) rfl #[.agg #[.slice A0_0 l0_0.length c0_0, .slice A0_1 l0_1.length c0_1], .agg #[.string a1_0, .string a1_1]] (by rfl) rfl rfl (by first | (simp only [List.map_toArray, List.map_cons, List.map_nil, Act.eval, Array.getD_eq_getD_getElem?, Option.getD_some, e10, e11]; done) | (simp only [List.map_toArray, List.map_cons, List.map_nil, Act.eval, Array.getD_eq_getD_getElem?, Option.getD_some, e10, e11]; rfl)) ?_
   with_reducible refine (conciergeref15_Keys.calls k _ _ l0_0 _ _ l0_1 a1_0 a1_1 t139 t140 t141 t142 t143 t144 _ ?side1 ?side2 ?side3 ?side4 A4.out).mono ?_
   (case side1 => repeat (first | exact (Kd.C_below HR0_0.out HB.out) | (with_reducible refine Kd.C_alloc ?_ _) | (with_reducible refine Kd.C_drewN ?_ _) | (with_reducible refine Kd.C_drew ?_)))
   (case side2 => exact HC0_0.out)
   (case side3 => repeat (first | exact (Kd.C_below HR0_1.out HB.out) | (with_reducible refine Kd.C_alloc ?_ _) | (with_reducible refine Kd.C_drewN ?_ _) | (with_reducible refine Kd.C_drew ?_)))
   (case side4 => exact HC0_1.out)
   rintro e w10 ⟨rfl, hb⟩
   refine ⟨_, rfl, ?_⟩
   have n0_ := Aside0.mk (blk_below (g := gb136) (o := .cells #[.slice A0_0 l0_0.length c0_0, .slice A0_1 l0_1.length c0_1] 28 (0, 0)) (fA1 BK136) hb)
   have n1_ := Aside0.mk (blk_below (g := gb137) (o := .cells #[.string a1_0, .string a1_1] 34 (0, 0)) (fA1 BK137) hb)
   have n2_ := Aside0.mk (blk_below (g := gb138) (o := .cells #[.string a2_0, .string a2_1] 34 (0, 0)) (fA1 BK138) hb)
   have n3_ := Aside0.mk (below_step (fB3 GE136 GE137 GE138) hb)
   have z_BK151 := fun (h0_ : b 6 = true) (h1_ : b 8 = false) => (show w10.heap[gb151]? = some (.cells #[.int .i64 0, .int .i64 0, .int .i64 0, .int .i64 0, .int .i64 0, .int .i64 0] 35 (0, 0)) from by first | exact (blk_below (g := gb151) (o := .cells #[.int .i64 0, .int .i64 0, .int .i64 0, .int .i64 0, .int .i64 0, .int .i64 0] 35 (0, 0)) (by (with_reducible repeat (first | refine blk_drewN ?_ _ | refine blk_drew ?_ | refine blk_alloc ?_ _)); exact (Q_BK151 h0_ h1_)) hb))
   have z_BK152 := fun (h0_ : b 7 = true) (h1_ : b 9 = false) => (show w10.heap[gb152]? = some (.cells #[.int .i64 0, .int .i64 0, .int .i64 0, .int .i64 0, .int .i64 0, .int .i64 0] 35 (0, 0)) from by first | exact (blk_below (g := gb152) (o := .cells #[.int .i64 0, .int .i64 0, .int .i64 0, .int .i64 0, .int .i64 0, .int .i64 0] 35 (0, 0)) (by (with_reducible repeat (first | refine blk_drewN ?_ _ | refine blk_drew ?_ | refine blk_alloc ?_ _)); exact (Q_BK152 h0_ h1_)) hb))
   clear BK136
   clear BK137
   clear BK138
   clear HB
   have BK136 := n0_
   have BK137 := n1_
   have BK138 := n2_
   have HB := n3_
   clear n0_ n1_ n2_ n3_
   (try clear hb)
   (try clear hb2)
   (try clear hk)
   (try clear hi)
   refine hK.out _ _ ⟨gb151, gb152, m6_, m7_, (by rw [ha.out]; exact putSel_upk 2 hb_ rfl rfl rfl), (fA1 BK136), (fA1 BK137), (fA1 BK138), (fB3 GE136 GE137 GE138), Q_NB152_151, Q_NB151_152, z_BK151, Q_GW151, Q_GE151, Q_NB136_151, Q_NB151_136, Q_NB137_151, Q_NB151_137, Q_NB138_151, Q_NB151_138, z_BK152, Q_GW152, Q_GE152, Q_NB136_152, Q_NB152_136, Q_NB137_152, Q_NB152_137, Q_NB138_152, Q_NB152_138, fun h0_ => absurd ((hoff 8 (by kernel_rfl)).symm.trans h0_) (by decide), fun h0_ => absurd ((hoff 9 (by kernel_rfl)).symm.trans h0_) (by decide), Q_X6_, Q_X7_⟩
  refine steps_cons ?_ ?_
  ·rintro b a w' ⟨gb151, gb152, m6_, m7_, ha, Q_BK136, Q_BK137, Q_BK138, Q_HB, Q_NB152_151, Q_NB151_152, Q_BK151, Q_GW151, Q_GE151, Q_NB136_151, Q_NB151_136, Q_NB137_151, Q_NB151_137, Q_NB138_151, Q_NB151_138, Q_BK152, Q_GW152, Q_GE152, Q_NB136_152, Q_NB152_136, Q_NB137_152, Q_NB152_137, Q_NB138_152, Q_NB152_138, Q_BK151_e8, Q_BK152_e9, Q_X6_, Q_X7_⟩ hb_ hon hoff
   refine ⟨_, rfl, fun K hK => ?_⟩
   have e3 : a.tmps[3]? = some (.pointer (some ⟨gb136, 0, none⟩)) := by rw [ha]; exact (putSel_off rfl).trans rfl
   replace ha := Aside0.mk ha
   have BK136 := Aside0.mk Q_BK136
   have BK137 := Aside0.mk Q_BK137
   have BK138 := Aside0.mk Q_BK138
   have HB := Aside0.mk Q_HB
   have hc0_ : w'.cell? ⟨gb136, 0, none⟩ = some (.slice A0_0 l0_0.length c0_0) := (blk_cell BK136.out 0).trans rfl
   have hc1_ : w'.cell? ⟨gb136, 1, none⟩ = some (.slice A0_1 l0_1.length c0_1) := (blk_cell BK136.out 1).trans rfl
   refine value_ (w1 := w') (v := .agg #[.slice A0_0 l0_0.length c0_0, .slice A0_1 l0_1.length c0_1]) (by rfl) rfl ?_ ?_
   ·go_simp
    (try simp only [i64_w])
    try rfl
   refine hK.out _ _ ⟨gb151, gb152, m6_, m7_, (by rw [ha.out]; exact putSel_upk 3 hb_ rfl rfl rfl), Q_BK136, Q_BK137, Q_BK138, Q_HB, Q_NB152_151, Q_NB151_152, Q_BK151, Q_GW151, Q_GE151, Q_NB136_151, Q_NB151_136, Q_NB137_151, Q_NB151_137, Q_NB138_151, Q_NB151_138, Q_BK152, Q_GW152, Q_GE152, Q_NB136_152, Q_NB152_136, Q_NB137_152, Q_NB152_137, Q_NB138_152, Q_NB152_138, fun h0_ => absurd ((hoff 8 (by kernel_rfl)).symm.trans h0_) (by decide), fun h0_ => absurd ((hoff 9 (by kernel_rfl)).symm.trans h0_) (by decide), Q_X6_, Q_X7_⟩
  refine steps_cons ?_ ?_
  ·rintro b a w' ⟨gb151, gb152, m6_, m7_, ha, Q_BK136, Q_BK137, Q_BK138, Q_HB, Q_NB152_151, Q_NB151_152, Q_BK151, Q_GW151, Q_GE151, Q_NB136_151, Q_NB151_136, Q_NB137_151, Q_NB151_137, Q_NB138_151, Q_NB151_138, Q_BK152, Q_GW152, Q_GE152, Q_NB136_152, Q_NB152_136, Q_NB137_152, Q_NB152_137, Q_NB138_152, Q_NB152_138, Q_BK151_e8, Q_BK152_e9, Q_X6_, Q_X7_⟩ hb_ hon hoff
   refine ⟨_, rfl, fun K hK => ?_⟩
   have e5 : a.tmps[5]? = some (.pointer (some ⟨gb138, 0, none⟩)) := by rw [ha]; exact (putSel_off rfl).trans rfl
   replace ha := Aside0.mk ha
   have BK136 := Aside0.mk Q_BK136
   have BK137 := Aside0.mk Q_BK137
   have BK138 := Aside0.mk Q_BK138
   have HB := Aside0.mk Q_HB
   have hc0_ : w'.cell? ⟨gb138, 0, none⟩ = some (.string a2_0) := (blk_cell BK138.out 0).trans rfl
   have hc1_ : w'.cell? ⟨gb138, 1, none⟩ = some (.string a2_1) := (blk_cell BK138.out 1).trans rfl
   refine value_ (w1 := w') (v := .agg #[.string a2_0, .string a2_1]) (by rfl) rfl ?_ ?_
   ·go_simp
    (try simp only [i64_w])
    try rfl
   refine hK.out _ _ ⟨gb151, gb152, m6_, m7_, (by rw [ha.out]; exact putSel_upk 4 hb_ rfl rfl rfl), Q_BK136, Q_BK137, Q_BK138, Q_HB, Q_NB152_151, Q_NB151_152, Q_BK151, Q_GW151, Q_GE151, Q_NB136_151, Q_NB151_136, Q_NB137_151, Q_NB151_137, Q_NB138_151, Q_NB151_138, Q_BK152, Q_GW152, Q_GE152, Q_NB136_152, Q_NB152_136, Q_NB137_152, Q_NB152_137, Q_NB138_152, Q_NB152_138, fun h0_ => absurd ((hoff 8 (by kernel_rfl)).symm.trans h0_) (by decide), fun h0_ => absurd ((hoff 9 (by kernel_rfl)).symm.trans h0_) (by decide), Q_X6_, Q_X7_⟩
  refine steps_cons ?_ ?_
  ·rintro b a w' ⟨gb151, gb152, m6_, m7_, ha, Q_BK136, Q_BK137, Q_BK138, Q_HB, Q_NB152_151, Q_NB151_152, Q_BK151, Q_GW151, Q_GE151, Q_NB136_151, Q_NB151_136, Q_NB137_151, Q_NB151_137, Q_NB138_151, Q_NB151_138, Q_BK152, Q_GW152, Q_GE152, Q_NB136_152, Q_NB152_136, Q_NB137_152, Q_NB152_137, Q_NB138_152, Q_NB152_138, Q_BK151_e8, Q_BK152_e9, Q_X6_, Q_X7_⟩ hb_ hon hoff
   refine ⟨_, rfl, fun K hK => ?_⟩
   have e13 : a.tmps[13]? = some (.agg #[.slice A0_0 l0_0.length c0_0, .slice A0_1 l0_1.length c0_1]) := by rw [ha]; exact putSel_on (e := (3, 13, .agg #[.slice A0_0 l0_0.length c0_0, .slice A0_1 l0_1.length c0_1])) 3 rfl rfl (hon 3 (by kernel_rfl)) rfl
   have e14 : a.tmps[14]? = some (.agg #[.string a2_0, .string a2_1]) := by rw [ha]; exact putSel_on (e := (4, 14, .agg #[.string a2_0, .string a2_1])) 4 rfl rfl (hon 4 (by kernel_rfl)) rfl
   replace ha := Aside0.mk ha
   have BK136 := Aside0.mk Q_BK136
   have BK137 := Aside0.mk Q_BK137
   have BK138 := Aside0.mk Q_BK138
   have HB := Aside0.mk Q_HB
   refine goes_ Try.func14 (by kernel_rfl) rfl #[.agg #[.slice A0_0 l0_0.length c0_0, .slice A0_1 l0_1.length c0_1], .agg #[.string a2_0, .string a2_1]] (by rfl) rfl rfl (by first | (simp only [List.map_toArray, List.map_cons, List.map_nil, Act.eval, Array.getD_eq_getD_getElem?, Option.getD_some, e13, e14]; done) | (simp only [List.map_toArray, List.map_cons, List.map_nil, Act.eval, Array.getD_eq_getD_getElem?, Option.getD_some, e13, e14]; rfl)) ?_
   with_reducible refine (conciergeref15_Keys.calls k _ _ l0_0 _ _ l0_1 a2_0 a2_1 t145 t146 t147 t148 t149 t150 _ ?side1 ?side2 ?side3 ?side4 A5.out).mono ?_
   (case side1 => repeat (first | exact (Kd.C_below HR0_0.out HB.out) | (with_reducible refine Kd.C_alloc ?_ _) | (with_reducible refine Kd.C_drewN ?_ _) | (with_reducible refine Kd.C_drew ?_)))
   (case side2 => exact HC0_0.out)
   (case side3 => repeat (first | exact (Kd.C_below HR0_1.out HB.out) | (with_reducible refine Kd.C_alloc ?_ _) | (with_reducible refine Kd.C_drewN ?_ _) | (with_reducible refine Kd.C_drew ?_)))
   (case side4 => exact HC0_1.out)
   rintro e w12 ⟨rfl, hb⟩
   refine ⟨_, rfl, ?_⟩
   have n0_ := Aside0.mk (blk_below (g := gb136) (o := .cells #[.slice A0_0 l0_0.length c0_0, .slice A0_1 l0_1.length c0_1] 28 (0, 0)) (fA1 BK136) hb)
   have n1_ := Aside0.mk (blk_below (g := gb137) (o := .cells #[.string a1_0, .string a1_1] 34 (0, 0)) (fA1 BK137) hb)
   have n2_ := Aside0.mk (blk_below (g := gb138) (o := .cells #[.string a2_0, .string a2_1] 34 (0, 0)) (fA1 BK138) hb)
   have n3_ := Aside0.mk (below_step (fB3 GE136 GE137 GE138) hb)
   have z_BK151 := fun (h0_ : b 6 = true) (h1_ : b 8 = false) => (show w12.heap[gb151]? = some (.cells #[.int .i64 0, .int .i64 0, .int .i64 0, .int .i64 0, .int .i64 0, .int .i64 0] 35 (0, 0)) from by first | exact (blk_below (g := gb151) (o := .cells #[.int .i64 0, .int .i64 0, .int .i64 0, .int .i64 0, .int .i64 0, .int .i64 0] 35 (0, 0)) (by (with_reducible repeat (first | refine blk_drewN ?_ _ | refine blk_drew ?_ | refine blk_alloc ?_ _)); exact (Q_BK151 h0_ h1_)) hb))
   have z_BK152 := fun (h0_ : b 7 = true) (h1_ : b 9 = false) => (show w12.heap[gb152]? = some (.cells #[.int .i64 0, .int .i64 0, .int .i64 0, .int .i64 0, .int .i64 0, .int .i64 0] 35 (0, 0)) from by first | exact (blk_below (g := gb152) (o := .cells #[.int .i64 0, .int .i64 0, .int .i64 0, .int .i64 0, .int .i64 0, .int .i64 0] 35 (0, 0)) (by (with_reducible repeat (first | refine blk_drewN ?_ _ | refine blk_drew ?_ | refine blk_alloc ?_ _)); exact (Q_BK152 h0_ h1_)) hb))
   clear BK136
   clear BK137
   clear BK138
   clear HB
   have BK136 := n0_
   have BK137 := n1_
   have BK138 := n2_
   have HB := n3_
   clear n0_ n1_ n2_ n3_
   (try clear hb)
   (try clear hb2)
   (try clear hk)
   (try clear hi)
   refine hK.out _ _ ⟨gb151, gb152, m6_, m7_, (by rw [ha.out]; exact putSel_upk 5 hb_ rfl rfl rfl), (fA1 BK136), (fA1 BK137), (fA1 BK138), (fB3 GE136 GE137 GE138), Q_NB152_151, Q_NB151_152, z_BK151, Q_GW151, Q_GE151, Q_NB136_151, Q_NB151_136, Q_NB137_151, Q_NB151_137, Q_NB138_151, Q_NB151_138, z_BK152, Q_GW152, Q_GE152, Q_NB136_152, Q_NB152_136, Q_NB137_152, Q_NB152_137, Q_NB138_152, Q_NB152_138, fun h0_ => absurd ((hoff 8 (by kernel_rfl)).symm.trans h0_) (by decide), fun h0_ => absurd ((hoff 9 (by kernel_rfl)).symm.trans h0_) (by decide), Q_X6_, Q_X7_⟩
  refine steps_cons ?_ ?_
  ·rintro b a w' ⟨gb151, gb152, m6_, m7_, ha, Q_BK136, Q_BK137, Q_BK138, Q_HB, Q_NB152_151, Q_NB151_152, Q_BK151, Q_GW151, Q_GE151, Q_NB136_151, Q_NB151_136, Q_NB137_151, Q_NB151_137, Q_NB138_151, Q_NB151_138, Q_BK152, Q_GW152, Q_GE152, Q_NB136_152, Q_NB152_136, Q_NB137_152, Q_NB152_137, Q_NB138_152, Q_NB152_138, Q_BK151_e8, Q_BK152_e9, Q_X6_, Q_X7_⟩ hb_ hon hoff
   refine ⟨_, rfl, fun K hK => ?_⟩
   replace ha := Aside0.mk ha
   have BK136 := Aside0.mk Q_BK136
   have BK137 := Aside0.mk Q_BK137
   have BK138 := Aside0.mk Q_BK138
   have HB := Aside0.mk Q_HB
   refine box_step ?hg (N := 7) ?hd (cs := #[.int .i64 0, .int .i64 0, .int .i64 0, .int .i64 0, .int .i64 0, .int .i64 0]) (t := 35) ?hr ?_; (case hd => rfl); (case hg => rfl); (case hr => first | (go_simp; done) | (go_simp; rfl))
   intro gb151 hg w10 hbox hb
   have n0_ := Aside0.mk (blk_below (g := gb136) (o := .cells #[.slice A0_0 l0_0.length c0_0, .slice A0_1 l0_1.length c0_1] 28 (0, 0)) (fA1 BK136) hb)
   have n1_ := Aside0.mk (blk_below (g := gb137) (o := .cells #[.string a1_0, .string a1_1] 34 (0, 0)) (fA1 BK137) hb)
   have n2_ := Aside0.mk (blk_below (g := gb138) (o := .cells #[.string a2_0, .string a2_1] 34 (0, 0)) (fA1 BK138) hb)
   have n3_ := Aside0.mk (below_step (fB3 GE136 GE137 GE138) hb)
   have n4_ := Aside0.mk (hbox)
   have n5_ := Aside0.mk ((by rw [hg]; exact (below_size (fB3 GE136 GE137 GE138)) : w.heap.size ≤ gb151))
   have n6_ := Aside0.mk ((by rw [hg]; exact (below_size (fB3 GE136 GE137 GE138)) : w.heap.size ≤ gb151))
   have n7_ := Aside0.mk ((by rw [hg]; exact Nat.ne_of_lt (blk_lt (g := gb136) (o := .cells #[.slice A0_0 l0_0.length c0_0, .slice A0_1 l0_1.length c0_1] 28 (0, 0)) (fA1 BK136)) : gb136 ≠ gb151))
   have n8_ := Aside0.mk ((by rw [hg]; exact Nat.ne_of_gt (blk_lt (g := gb136) (o := .cells #[.slice A0_0 l0_0.length c0_0, .slice A0_1 l0_1.length c0_1] 28 (0, 0)) (fA1 BK136)) : gb151 ≠ gb136))
   have n9_ := Aside0.mk ((by rw [hg]; exact Nat.ne_of_lt (blk_lt (g := gb137) (o := .cells #[.string a1_0, .string a1_1] 34 (0, 0)) (fA1 BK137)) : gb137 ≠ gb151))
   have n10_ := Aside0.mk ((by rw [hg]; exact Nat.ne_of_gt (blk_lt (g := gb137) (o := .cells #[.string a1_0, .string a1_1] 34 (0, 0)) (fA1 BK137)) : gb151 ≠ gb137))
   have n11_ := Aside0.mk ((by rw [hg]; exact Nat.ne_of_lt (blk_lt (g := gb138) (o := .cells #[.string a2_0, .string a2_1] 34 (0, 0)) (fA1 BK138)) : gb138 ≠ gb151))
   have n12_ := Aside0.mk ((by rw [hg]; exact Nat.ne_of_gt (blk_lt (g := gb138) (o := .cells #[.string a2_0, .string a2_1] 34 (0, 0)) (fA1 BK138)) : gb151 ≠ gb138))
   have z_NB152_151 := fun (h0_ : up b 6 6 = true) (h1_ : up b 6 7 = true) => (show gb152 ≠ gb151 from ((by rw [hg]; exact Nat.ne_of_lt (blk_lt (g := gb152) (o := .cells #[.int .i64 0, .int .i64 0, .int .i64 0, .int .i64 0, .int .i64 0, .int .i64 0] 35 (0, 0)) (by (with_reducible repeat (first | refine blk_drewN ?_ _ | refine blk_drew ?_ | refine blk_alloc ?_ _)); exact (Q_BK152 ((up_ne (i := 6) (j := 7) (by decide)).symm.trans h1_) (hoff 9 (by kernel_rfl))))) : gb152 ≠ gb151)))
   have z_NB151_152 := fun (h0_ : up b 6 6 = true) (h1_ : up b 6 7 = true) => (show gb151 ≠ gb152 from ((by rw [hg]; exact Nat.ne_of_gt (blk_lt (g := gb152) (o := .cells #[.int .i64 0, .int .i64 0, .int .i64 0, .int .i64 0, .int .i64 0, .int .i64 0] 35 (0, 0)) (by (with_reducible repeat (first | refine blk_drewN ?_ _ | refine blk_drew ?_ | refine blk_alloc ?_ _)); exact (Q_BK152 ((up_ne (i := 6) (j := 7) (by decide)).symm.trans h1_) (hoff 9 (by kernel_rfl))))) : gb151 ≠ gb152)))
   have z_BK152 := fun (h0_ : b 7 = true) (h1_ : b 9 = false) => (show w10.heap[gb152]? = some (.cells #[.int .i64 0, .int .i64 0, .int .i64 0, .int .i64 0, .int .i64 0, .int .i64 0] 35 (0, 0)) from by first | exact (blk_below (g := gb152) (o := .cells #[.int .i64 0, .int .i64 0, .int .i64 0, .int .i64 0, .int .i64 0, .int .i64 0] 35 (0, 0)) (by (with_reducible repeat (first | refine blk_drewN ?_ _ | refine blk_drew ?_ | refine blk_alloc ?_ _)); exact (Q_BK152 h0_ h1_)) hb))
   clear BK136
   clear BK137
   clear BK138
   clear HB
   have BK136 := n0_
   have BK137 := n1_
   have BK138 := n2_
   have HB := n3_
   have BK151 := n4_
   have GW151 := n5_
   have GE151 := n6_
   have NB136_151 := n7_
   have NB151_136 := n8_
   have NB137_151 := n9_
   have NB151_137 := n10_
   have NB138_151 := n11_
   have NB151_138 := n12_
   clear n0_ n1_ n2_ n3_ n4_ n5_ n6_ n7_ n8_ n9_ n10_ n11_ n12_
   clear hb hbox hg
   refine hK.out _ _ ⟨gb151, gb152, (.pointer (some ⟨gb151, 0, none⟩)), m7_, (by rw [ha.out]; exact putSel_upk 6 hb_ rfl rfl rfl), (fA1 BK136), (fA1 BK137), (fA1 BK138), (fB5 GE136 GE137 GE138 GE151), z_NB152_151, z_NB151_152, fun _ _ => (fA1 BK151), fun _ => GW151.out, fun _ => GE151.out, fun _ => NB136_151.out, fun _ => NB151_136.out, fun _ => NB137_151.out, fun _ => NB151_137.out, fun _ => NB138_151.out, fun _ => NB151_138.out, z_BK152, Q_GW152, Q_GE152, Q_NB136_152, Q_NB152_136, Q_NB137_152, Q_NB152_137, Q_NB138_152, Q_NB152_138, fun h0_ => absurd ((hoff 8 (by kernel_rfl)).symm.trans h0_) (by decide), fun h0_ => absurd ((hoff 9 (by kernel_rfl)).symm.trans h0_) (by decide), fun _ => rfl, Q_X7_⟩
  refine steps_cons ?_ ?_
  ·rintro b a w' ⟨gb151, gb152, m6_, m7_, ha, Q_BK136, Q_BK137, Q_BK138, Q_HB, Q_NB152_151, Q_NB151_152, Q_BK151, Q_GW151, Q_GE151, Q_NB136_151, Q_NB151_136, Q_NB137_151, Q_NB151_137, Q_NB138_151, Q_NB151_138, Q_BK152, Q_GW152, Q_GE152, Q_NB136_152, Q_NB152_136, Q_NB137_152, Q_NB152_137, Q_NB138_152, Q_NB152_138, Q_BK151_e8, Q_BK152_e9, Q_X6_, Q_X7_⟩ hb_ hon hoff
   refine ⟨_, rfl, fun K hK => ?_⟩
   replace ha := Aside0.mk ha
   have BK136 := Aside0.mk Q_BK136
   have BK137 := Aside0.mk Q_BK137
   have BK138 := Aside0.mk Q_BK138
   have HB := Aside0.mk Q_HB
   refine box_step ?hg (N := 8) ?hd (cs := #[.int .i64 0, .int .i64 0, .int .i64 0, .int .i64 0, .int .i64 0, .int .i64 0]) (t := 35) ?hr ?_; (case hd => rfl); (case hg => rfl); (case hr => first | (go_simp; done) | (go_simp; rfl))
   intro gb152 hg w10 hbox hb
   have n0_ := Aside0.mk (blk_below (g := gb136) (o := .cells #[.slice A0_0 l0_0.length c0_0, .slice A0_1 l0_1.length c0_1] 28 (0, 0)) (fA1 BK136) hb)
   have n1_ := Aside0.mk (blk_below (g := gb137) (o := .cells #[.string a1_0, .string a1_1] 34 (0, 0)) (fA1 BK137) hb)
   have n2_ := Aside0.mk (blk_below (g := gb138) (o := .cells #[.string a2_0, .string a2_1] 34 (0, 0)) (fA1 BK138) hb)
   have n3_ := Aside0.mk (below_step (fB3 GE136 GE137 GE138) hb)
   have n4_ := Aside0.mk (hbox)
   have n5_ := Aside0.mk ((by rw [hg]; exact (below_size (fB3 GE136 GE137 GE138)) : w.heap.size ≤ gb152))
   have n6_ := Aside0.mk ((by rw [hg]; exact (below_size (fB3 GE136 GE137 GE138)) : w.heap.size ≤ gb152))
   have n7_ := Aside0.mk ((by rw [hg]; exact Nat.ne_of_lt (blk_lt (g := gb136) (o := .cells #[.slice A0_0 l0_0.length c0_0, .slice A0_1 l0_1.length c0_1] 28 (0, 0)) (fA1 BK136)) : gb136 ≠ gb152))
   have n8_ := Aside0.mk ((by rw [hg]; exact Nat.ne_of_gt (blk_lt (g := gb136) (o := .cells #[.slice A0_0 l0_0.length c0_0, .slice A0_1 l0_1.length c0_1] 28 (0, 0)) (fA1 BK136)) : gb152 ≠ gb136))
   have n9_ := Aside0.mk ((by rw [hg]; exact Nat.ne_of_lt (blk_lt (g := gb137) (o := .cells #[.string a1_0, .string a1_1] 34 (0, 0)) (fA1 BK137)) : gb137 ≠ gb152))
   have n10_ := Aside0.mk ((by rw [hg]; exact Nat.ne_of_gt (blk_lt (g := gb137) (o := .cells #[.string a1_0, .string a1_1] 34 (0, 0)) (fA1 BK137)) : gb152 ≠ gb137))
   have n11_ := Aside0.mk ((by rw [hg]; exact Nat.ne_of_lt (blk_lt (g := gb138) (o := .cells #[.string a2_0, .string a2_1] 34 (0, 0)) (fA1 BK138)) : gb138 ≠ gb152))
   have n12_ := Aside0.mk ((by rw [hg]; exact Nat.ne_of_gt (blk_lt (g := gb138) (o := .cells #[.string a2_0, .string a2_1] 34 (0, 0)) (fA1 BK138)) : gb152 ≠ gb138))
   have z_NB152_151 := fun (h0_ : up b 7 6 = true) (h1_ : up b 7 7 = true) => (show gb152 ≠ gb151 from ((by rw [hg]; exact Nat.ne_of_gt (blk_lt (g := gb151) (o := .cells #[.int .i64 0, .int .i64 0, .int .i64 0, .int .i64 0, .int .i64 0, .int .i64 0] 35 (0, 0)) (by (with_reducible repeat (first | refine blk_drewN ?_ _ | refine blk_drew ?_ | refine blk_alloc ?_ _)); exact (Q_BK151 ((up_ne (i := 7) (j := 6) (by decide)).symm.trans h0_) (hoff 8 (by kernel_rfl))))) : gb152 ≠ gb151)))
   have z_NB151_152 := fun (h0_ : up b 7 6 = true) (h1_ : up b 7 7 = true) => (show gb151 ≠ gb152 from ((by rw [hg]; exact Nat.ne_of_lt (blk_lt (g := gb151) (o := .cells #[.int .i64 0, .int .i64 0, .int .i64 0, .int .i64 0, .int .i64 0, .int .i64 0] 35 (0, 0)) (by (with_reducible repeat (first | refine blk_drewN ?_ _ | refine blk_drew ?_ | refine blk_alloc ?_ _)); exact (Q_BK151 ((up_ne (i := 7) (j := 6) (by decide)).symm.trans h0_) (hoff 8 (by kernel_rfl))))) : gb151 ≠ gb152)))
   have z_BK151 := fun (h0_ : b 6 = true) (h1_ : b 8 = false) => (show w10.heap[gb151]? = some (.cells #[.int .i64 0, .int .i64 0, .int .i64 0, .int .i64 0, .int .i64 0, .int .i64 0] 35 (0, 0)) from by first | exact (blk_below (g := gb151) (o := .cells #[.int .i64 0, .int .i64 0, .int .i64 0, .int .i64 0, .int .i64 0, .int .i64 0] 35 (0, 0)) (by (with_reducible repeat (first | refine blk_drewN ?_ _ | refine blk_drew ?_ | refine blk_alloc ?_ _)); exact (Q_BK151 h0_ h1_)) hb))
   clear BK136
   clear BK137
   clear BK138
   clear HB
   have BK136 := n0_
   have BK137 := n1_
   have BK138 := n2_
   have HB := n3_
   have BK152 := n4_
   have GW152 := n5_
   have GE152 := n6_
   have NB136_152 := n7_
   have NB152_136 := n8_
   have NB137_152 := n9_
   have NB152_137 := n10_
   have NB138_152 := n11_
   have NB152_138 := n12_
   clear n0_ n1_ n2_ n3_ n4_ n5_ n6_ n7_ n8_ n9_ n10_ n11_ n12_
   clear hb hbox hg
   refine hK.out _ _ ⟨gb151, gb152, m6_, (.pointer (some ⟨gb152, 0, none⟩)), (by rw [ha.out]; exact putSel_upk 7 hb_ rfl rfl rfl), (fA1 BK136), (fA1 BK137), (fA1 BK138), (fB5 GE136 GE137 GE138 GE152), z_NB152_151, z_NB151_152, z_BK151, Q_GW151, Q_GE151, Q_NB136_151, Q_NB151_136, Q_NB137_151, Q_NB151_137, Q_NB138_151, Q_NB151_138, fun _ _ => (fA1 BK152), fun _ => GW152.out, fun _ => GE152.out, fun _ => NB136_152.out, fun _ => NB152_136.out, fun _ => NB137_152.out, fun _ => NB152_137.out, fun _ => NB138_152.out, fun _ => NB152_138.out, fun h0_ => absurd ((hoff 8 (by kernel_rfl)).symm.trans h0_) (by decide), fun h0_ => absurd ((hoff 9 (by kernel_rfl)).symm.trans h0_) (by decide), Q_X6_, fun _ => rfl⟩
  refine steps_cons ?_ ?_
  ·rintro b a w' ⟨gb151, gb152, m6_, m7_, ha, Q_BK136, Q_BK137, Q_BK138, Q_HB, Q_NB152_151, Q_NB151_152, Q_BK151, Q_GW151, Q_GE151, Q_NB136_151, Q_NB151_136, Q_NB137_151, Q_NB151_137, Q_NB138_151, Q_NB151_138, Q_BK152, Q_GW152, Q_GE152, Q_NB136_152, Q_NB152_136, Q_NB137_152, Q_NB152_137, Q_NB138_152, Q_NB152_138, Q_BK151_e8, Q_BK152_e9, Q_X6_, Q_X7_⟩ hb_ hon hoff
   refine ⟨_, rfl, fun K hK => ?_⟩
   have e7 : a.tmps[7]? = some (m6_) := by rw [ha]; exact putSel_on (e := (6, 7, m6_)) 6 rfl rfl (hon 6 (by kernel_rfl)) rfl
   rw [Q_X6_ (hon 6 (by kernel_rfl))] at e7
   have e12 : a.tmps[12]? = some (.agg #[.int .i64 t139, .int .i64 t140, .int .i64 t141, .int .i64 t142, .int .i64 t143, .int .i64 t144]) := by rw [ha]; exact putSel_on (e := (2, 12, .agg #[.int .i64 t139, .int .i64 t140, .int .i64 t141, .int .i64 t142, .int .i64 t143, .int .i64 t144])) 2 rfl rfl (hon 2 (by kernel_rfl)) rfl
   replace ha := Aside0.mk ha
   have BK136 := Aside0.mk Q_BK136
   have BK137 := Aside0.mk Q_BK137
   have BK138 := Aside0.mk Q_BK138
   have HB := Aside0.mk Q_HB
   have NB152_151 := Aside0.mk (Q_NB152_151 (hon 6 (by kernel_rfl)) (hon 7 (by kernel_rfl)))
   have NB151_152 := Aside0.mk (Q_NB151_152 (hon 6 (by kernel_rfl)) (hon 7 (by kernel_rfl)))
   have BK151 := Aside0.mk (Q_BK151 (hon 6 (by kernel_rfl)) hb_)
   have GW151 := Aside0.mk (Q_GW151 (hon 6 (by kernel_rfl)))
   have GE151 := Aside0.mk (Q_GE151 (hon 6 (by kernel_rfl)))
   have NB136_151 := Aside0.mk (Q_NB136_151 (hon 6 (by kernel_rfl)))
   have NB151_136 := Aside0.mk (Q_NB151_136 (hon 6 (by kernel_rfl)))
   have NB137_151 := Aside0.mk (Q_NB137_151 (hon 6 (by kernel_rfl)))
   have NB151_137 := Aside0.mk (Q_NB151_137 (hon 6 (by kernel_rfl)))
   have NB138_151 := Aside0.mk (Q_NB138_151 (hon 6 (by kernel_rfl)))
   have NB151_138 := Aside0.mk (Q_NB151_138 (hon 6 (by kernel_rfl)))
   have BK152 := Aside0.mk (Q_BK152 (hon 7 (by kernel_rfl)) (hoff 9 (by kernel_rfl)))
   have GW152 := Aside0.mk (Q_GW152 (hon 7 (by kernel_rfl)))
   have GE152 := Aside0.mk (Q_GE152 (hon 7 (by kernel_rfl)))
   have NB136_152 := Aside0.mk (Q_NB136_152 (hon 7 (by kernel_rfl)))
   have NB152_136 := Aside0.mk (Q_NB152_136 (hon 7 (by kernel_rfl)))
   have NB137_152 := Aside0.mk (Q_NB137_152 (hon 7 (by kernel_rfl)))
   have NB152_137 := Aside0.mk (Q_NB152_137 (hon 7 (by kernel_rfl)))
   have NB138_152 := Aside0.mk (Q_NB138_152 (hon 7 (by kernel_rfl)))
   have NB152_138 := Aside0.mk (Q_NB152_138 (hon 7 (by kernel_rfl)))
   have hs15 : w'.cell? ⟨gb151, 0, none⟩ = some (.int .i64 0) := (blk_cell BK151.out 0).trans rfl
   have hfs15 := blk_frozen BK151.out 0
   have hns15_0 := NB136_151.out
   have hns15_1 := NB137_151.out
   have hns15_2 := NB138_151.out
   have hns15_4 := NB152_151.out
   have hms15_0 := NB151_136.out
   have hms15_1 := NB151_137.out
   have hms15_2 := NB151_138.out
   have hms15_4 := NB151_152.out
   have hs16 : w'.cell? ⟨gb151, 1, none⟩ = some (.int .i64 0) := (blk_cell BK151.out 1).trans rfl
   have hfs16 := blk_frozen BK151.out 1
   have hns16_0 := NB136_151.out
   have hns16_1 := NB137_151.out
   have hns16_2 := NB138_151.out
   have hns16_4 := NB152_151.out
   have hms16_0 := NB151_136.out
   have hms16_1 := NB151_137.out
   have hms16_2 := NB151_138.out
   have hms16_4 := NB151_152.out
   have hs17 : w'.cell? ⟨gb151, 2, none⟩ = some (.int .i64 0) := (blk_cell BK151.out 2).trans rfl
   have hfs17 := blk_frozen BK151.out 2
   have hns17_0 := NB136_151.out
   have hns17_1 := NB137_151.out
   have hns17_2 := NB138_151.out
   have hns17_4 := NB152_151.out
   have hms17_0 := NB151_136.out
   have hms17_1 := NB151_137.out
   have hms17_2 := NB151_138.out
   have hms17_4 := NB151_152.out
   have hs18 : w'.cell? ⟨gb151, 3, none⟩ = some (.int .i64 0) := (blk_cell BK151.out 3).trans rfl
   have hfs18 := blk_frozen BK151.out 3
   have hns18_0 := NB136_151.out
   have hns18_1 := NB137_151.out
   have hns18_2 := NB138_151.out
   have hns18_4 := NB152_151.out
   have hms18_0 := NB151_136.out
   have hms18_1 := NB151_137.out
   have hms18_2 := NB151_138.out
   have hms18_4 := NB151_152.out
   have hs19 : w'.cell? ⟨gb151, 4, none⟩ = some (.int .i64 0) := (blk_cell BK151.out 4).trans rfl
   have hfs19 := blk_frozen BK151.out 4
   have hns19_0 := NB136_151.out
   have hns19_1 := NB137_151.out
   have hns19_2 := NB138_151.out
   have hns19_4 := NB152_151.out
   have hms19_0 := NB151_136.out
   have hms19_1 := NB151_137.out
   have hms19_2 := NB151_138.out
   have hms19_4 := NB151_152.out
   have hs20 : w'.cell? ⟨gb151, 5, none⟩ = some (.int .i64 0) := (blk_cell BK151.out 5).trans rfl
   have hfs20 := blk_frozen BK151.out 5
   have hns20_0 := NB136_151.out
   have hns20_1 := NB137_151.out
   have hns20_2 := NB138_151.out
   have hns20_4 := NB152_151.out
   have hms20_0 := NB151_136.out
   have hms20_1 := NB151_137.out
   have hms20_2 := NB151_138.out
   have hms20_4 := NB151_152.out
   refine skip_ (w1 := ?_) (by rfl) rfl ?_ ?_
   rotate_left
   ·go_simp
    rfl
   refine hK.out _ _ ⟨gb151, gb152, m6_, m7_, (by rw [ha.out]; exact putSel_none (v := undef) rfl), (by (with_reducible repeat (first | refine blk_drewN ?_ _ | refine blk_drew ?_ | refine blk_alloc ?_ _)); refine blk_far ?_ NB136_151.out _; (with_reducible repeat (first | refine blk_drewN ?_ _ | refine blk_drew ?_ | refine blk_alloc ?_ _)); refine blk_far ?_ NB136_151.out _; (with_reducible repeat (first | refine blk_drewN ?_ _ | refine blk_drew ?_ | refine blk_alloc ?_ _)); refine blk_far ?_ NB136_151.out _; (with_reducible repeat (first | refine blk_drewN ?_ _ | refine blk_drew ?_ | refine blk_alloc ?_ _)); refine blk_far ?_ NB136_151.out _; (with_reducible repeat (first | refine blk_drewN ?_ _ | refine blk_drew ?_ | refine blk_alloc ?_ _)); refine blk_far ?_ NB136_151.out _; (with_reducible repeat (first | refine blk_drewN ?_ _ | refine blk_drew ?_ | refine blk_alloc ?_ _)); refine blk_far ?_ NB136_151.out _; (with_reducible repeat (first | refine blk_drewN ?_ _ | refine blk_drew ?_ | refine blk_alloc ?_ _)); exact BK136.out), (by (with_reducible repeat (first | refine blk_drewN ?_ _ | refine blk_drew ?_ | refine blk_alloc ?_ _)); refine blk_far ?_ NB137_151.out _; (with_reducible repeat (first | refine blk_drewN ?_ _ | refine blk_drew ?_ | refine blk_alloc ?_ _)); refine blk_far ?_ NB137_151.out _; (with_reducible repeat (first | refine blk_drewN ?_ _ | refine blk_drew ?_ | refine blk_alloc ?_ _)); refine blk_far ?_ NB137_151.out _; (with_reducible repeat (first | refine blk_drewN ?_ _ | refine blk_drew ?_ | refine blk_alloc ?_ _)); refine blk_far ?_ NB137_151.out _; (with_reducible repeat (first | refine blk_drewN ?_ _ | refine blk_drew ?_ | refine blk_alloc ?_ _)); refine blk_far ?_ NB137_151.out _; (with_reducible repeat (first | refine blk_drewN ?_ _ | refine blk_drew ?_ | refine blk_alloc ?_ _)); refine blk_far ?_ NB137_151.out _; (with_reducible repeat (first | refine blk_drewN ?_ _ | refine blk_drew ?_ | refine blk_alloc ?_ _)); exact BK137.out), (by (with_reducible repeat (first | refine blk_drewN ?_ _ | refine blk_drew ?_ | refine blk_alloc ?_ _)); refine blk_far ?_ NB138_151.out _; (with_reducible repeat (first | refine blk_drewN ?_ _ | refine blk_drew ?_ | refine blk_alloc ?_ _)); refine blk_far ?_ NB138_151.out _; (with_reducible repeat (first | refine blk_drewN ?_ _ | refine blk_drew ?_ | refine blk_alloc ?_ _)); refine blk_far ?_ NB138_151.out _; (with_reducible repeat (first | refine blk_drewN ?_ _ | refine blk_drew ?_ | refine blk_alloc ?_ _)); refine blk_far ?_ NB138_151.out _; (with_reducible repeat (first | refine blk_drewN ?_ _ | refine blk_drew ?_ | refine blk_alloc ?_ _)); refine blk_far ?_ NB138_151.out _; (with_reducible repeat (first | refine blk_drewN ?_ _ | refine blk_drew ?_ | refine blk_alloc ?_ _)); refine blk_far ?_ NB138_151.out _; (with_reducible repeat (first | refine blk_drewN ?_ _ | refine blk_drew ?_ | refine blk_alloc ?_ _)); exact BK138.out), (fB6 GE136 GE137 GE138 GE151 GE152), fun _ _ => NB152_151.out, fun _ _ => NB151_152.out, fun _ h1_ => absurd ((up_self b 8).symm.trans h1_) (by decide), fun _ => GW151.out, fun _ => GE151.out, fun _ => NB136_151.out, fun _ => NB151_136.out, fun _ => NB137_151.out, fun _ => NB151_137.out, fun _ => NB138_151.out, fun _ => NB151_138.out, fun _ _ => (by (with_reducible repeat (first | refine blk_drewN ?_ _ | refine blk_drew ?_ | refine blk_alloc ?_ _)); refine blk_far ?_ NB152_151.out _; (with_reducible repeat (first | refine blk_drewN ?_ _ | refine blk_drew ?_ | refine blk_alloc ?_ _)); refine blk_far ?_ NB152_151.out _; (with_reducible repeat (first | refine blk_drewN ?_ _ | refine blk_drew ?_ | refine blk_alloc ?_ _)); refine blk_far ?_ NB152_151.out _; (with_reducible repeat (first | refine blk_drewN ?_ _ | refine blk_drew ?_ | refine blk_alloc ?_ _)); refine blk_far ?_ NB152_151.out _; (with_reducible repeat (first | refine blk_drewN ?_ _ | refine blk_drew ?_ | refine blk_alloc ?_ _)); refine blk_far ?_ NB152_151.out _; (with_reducible repeat (first | refine blk_drewN ?_ _ | refine blk_drew ?_ | refine blk_alloc ?_ _)); refine blk_far ?_ NB152_151.out _; (with_reducible repeat (first | refine blk_drewN ?_ _ | refine blk_drew ?_ | refine blk_alloc ?_ _)); exact BK152.out), fun _ => GW152.out, fun _ => GE152.out, fun _ => NB136_152.out, fun _ => NB152_136.out, fun _ => NB137_152.out, fun _ => NB152_137.out, fun _ => NB138_152.out, fun _ => NB152_138.out, fun _ => (by (with_reducible repeat (first | refine blk_drewN ?_ _ | refine blk_drew ?_ | refine blk_alloc ?_ _)); refine blk_put (cs := #[.int .i64 t139, .int .i64 t140, .int .i64 t141, .int .i64 t142, .int .i64 t143, .int .i64 0]) ?_ 5 _ rfl; (with_reducible repeat (first | refine blk_drewN ?_ _ | refine blk_drew ?_ | refine blk_alloc ?_ _)); refine blk_put (cs := #[.int .i64 t139, .int .i64 t140, .int .i64 t141, .int .i64 t142, .int .i64 0, .int .i64 0]) ?_ 4 _ rfl; (with_reducible repeat (first | refine blk_drewN ?_ _ | refine blk_drew ?_ | refine blk_alloc ?_ _)); refine blk_put (cs := #[.int .i64 t139, .int .i64 t140, .int .i64 t141, .int .i64 0, .int .i64 0, .int .i64 0]) ?_ 3 _ rfl; (with_reducible repeat (first | refine blk_drewN ?_ _ | refine blk_drew ?_ | refine blk_alloc ?_ _)); refine blk_put (cs := #[.int .i64 t139, .int .i64 t140, .int .i64 0, .int .i64 0, .int .i64 0, .int .i64 0]) ?_ 2 _ rfl; (with_reducible repeat (first | refine blk_drewN ?_ _ | refine blk_drew ?_ | refine blk_alloc ?_ _)); refine blk_put (cs := #[.int .i64 t139, .int .i64 0, .int .i64 0, .int .i64 0, .int .i64 0, .int .i64 0]) ?_ 1 _ rfl; (with_reducible repeat (first | refine blk_drewN ?_ _ | refine blk_drew ?_ | refine blk_alloc ?_ _)); refine blk_put (cs := #[.int .i64 0, .int .i64 0, .int .i64 0, .int .i64 0, .int .i64 0, .int .i64 0]) ?_ 0 _ rfl; (with_reducible repeat (first | refine blk_drewN ?_ _ | refine blk_drew ?_ | refine blk_alloc ?_ _)); exact BK151.out), fun h0_ => absurd ((hoff 9 (by kernel_rfl)).symm.trans h0_) (by decide), Q_X6_, Q_X7_⟩
  refine steps_cons ?_ ?_
  ·rintro b a w' ⟨gb151, gb152, m6_, m7_, ha, Q_BK136, Q_BK137, Q_BK138, Q_HB, Q_NB152_151, Q_NB151_152, Q_BK151, Q_GW151, Q_GE151, Q_NB136_151, Q_NB151_136, Q_NB137_151, Q_NB151_137, Q_NB138_151, Q_NB151_138, Q_BK152, Q_GW152, Q_GE152, Q_NB136_152, Q_NB152_136, Q_NB137_152, Q_NB152_137, Q_NB138_152, Q_NB152_138, Q_BK151_e8, Q_BK152_e9, Q_X6_, Q_X7_⟩ hb_ hon hoff
   refine ⟨_, rfl, fun K hK => ?_⟩
   have e8 : a.tmps[8]? = some (m7_) := by rw [ha]; exact putSel_on (e := (7, 8, m7_)) 7 rfl rfl (hon 7 (by kernel_rfl)) rfl
   rw [Q_X7_ (hon 7 (by kernel_rfl))] at e8
   have e15 : a.tmps[15]? = some (.agg #[.int .i64 t145, .int .i64 t146, .int .i64 t147, .int .i64 t148, .int .i64 t149, .int .i64 t150]) := by rw [ha]; exact putSel_on (e := (5, 15, .agg #[.int .i64 t145, .int .i64 t146, .int .i64 t147, .int .i64 t148, .int .i64 t149, .int .i64 t150])) 5 rfl rfl (hon 5 (by kernel_rfl)) rfl
   replace ha := Aside0.mk ha
   have BK136 := Aside0.mk Q_BK136
   have BK137 := Aside0.mk Q_BK137
   have BK138 := Aside0.mk Q_BK138
   have HB := Aside0.mk Q_HB
   have NB152_151 := Aside0.mk (Q_NB152_151 (hon 6 (by kernel_rfl)) (hon 7 (by kernel_rfl)))
   have NB151_152 := Aside0.mk (Q_NB151_152 (hon 6 (by kernel_rfl)) (hon 7 (by kernel_rfl)))
   have GW151 := Aside0.mk (Q_GW151 (hon 6 (by kernel_rfl)))
   have GE151 := Aside0.mk (Q_GE151 (hon 6 (by kernel_rfl)))
   have NB136_151 := Aside0.mk (Q_NB136_151 (hon 6 (by kernel_rfl)))
   have NB151_136 := Aside0.mk (Q_NB151_136 (hon 6 (by kernel_rfl)))
   have NB137_151 := Aside0.mk (Q_NB137_151 (hon 6 (by kernel_rfl)))
   have NB151_137 := Aside0.mk (Q_NB151_137 (hon 6 (by kernel_rfl)))
   have NB138_151 := Aside0.mk (Q_NB138_151 (hon 6 (by kernel_rfl)))
   have NB151_138 := Aside0.mk (Q_NB151_138 (hon 6 (by kernel_rfl)))
   have BK152 := Aside0.mk (Q_BK152 (hon 7 (by kernel_rfl)) hb_)
   have GW152 := Aside0.mk (Q_GW152 (hon 7 (by kernel_rfl)))
   have GE152 := Aside0.mk (Q_GE152 (hon 7 (by kernel_rfl)))
   have NB136_152 := Aside0.mk (Q_NB136_152 (hon 7 (by kernel_rfl)))
   have NB152_136 := Aside0.mk (Q_NB152_136 (hon 7 (by kernel_rfl)))
   have NB137_152 := Aside0.mk (Q_NB137_152 (hon 7 (by kernel_rfl)))
   have NB152_137 := Aside0.mk (Q_NB152_137 (hon 7 (by kernel_rfl)))
   have NB138_152 := Aside0.mk (Q_NB138_152 (hon 7 (by kernel_rfl)))
   have NB152_138 := Aside0.mk (Q_NB152_138 (hon 7 (by kernel_rfl)))
   have BK151 := Aside0.mk (Q_BK151_e8 (hon 8 (by kernel_rfl)))
   have hs21 : w'.cell? ⟨gb152, 0, none⟩ = some (.int .i64 0) := (blk_cell BK152.out 0).trans rfl
   have hfs21 := blk_frozen BK152.out 0
   have hns21_0 := NB136_152.out
   have hns21_1 := NB137_152.out
   have hns21_2 := NB138_152.out
   have hns21_3 := NB151_152.out
   have hms21_0 := NB152_136.out
   have hms21_1 := NB152_137.out
   have hms21_2 := NB152_138.out
   have hms21_3 := NB152_151.out
   have hs22 : w'.cell? ⟨gb152, 1, none⟩ = some (.int .i64 0) := (blk_cell BK152.out 1).trans rfl
   have hfs22 := blk_frozen BK152.out 1
   have hns22_0 := NB136_152.out
   have hns22_1 := NB137_152.out
   have hns22_2 := NB138_152.out
   have hns22_3 := NB151_152.out
   have hms22_0 := NB152_136.out
   have hms22_1 := NB152_137.out
   have hms22_2 := NB152_138.out
   have hms22_3 := NB152_151.out
   have hs23 : w'.cell? ⟨gb152, 2, none⟩ = some (.int .i64 0) := (blk_cell BK152.out 2).trans rfl
   have hfs23 := blk_frozen BK152.out 2
   have hns23_0 := NB136_152.out
   have hns23_1 := NB137_152.out
   have hns23_2 := NB138_152.out
   have hns23_3 := NB151_152.out
   have hms23_0 := NB152_136.out
   have hms23_1 := NB152_137.out
   have hms23_2 := NB152_138.out
   have hms23_3 := NB152_151.out
   have hs24 : w'.cell? ⟨gb152, 3, none⟩ = some (.int .i64 0) := (blk_cell BK152.out 3).trans rfl
   have hfs24 := blk_frozen BK152.out 3
   have hns24_0 := NB136_152.out
   have hns24_1 := NB137_152.out
   have hns24_2 := NB138_152.out
   have hns24_3 := NB151_152.out
   have hms24_0 := NB152_136.out
   have hms24_1 := NB152_137.out
   have hms24_2 := NB152_138.out
   have hms24_3 := NB152_151.out
   have hs25 : w'.cell? ⟨gb152, 4, none⟩ = some (.int .i64 0) := (blk_cell BK152.out 4).trans rfl
   have hfs25 := blk_frozen BK152.out 4
   have hns25_0 := NB136_152.out
   have hns25_1 := NB137_152.out
   have hns25_2 := NB138_152.out
   have hns25_3 := NB151_152.out
   have hms25_0 := NB152_136.out
   have hms25_1 := NB152_137.out
   have hms25_2 := NB152_138.out
   have hms25_3 := NB152_151.out
   have hs26 : w'.cell? ⟨gb152, 5, none⟩ = some (.int .i64 0) := (blk_cell BK152.out 5).trans rfl
   have hfs26 := blk_frozen BK152.out 5
   have hns26_0 := NB136_152.out
   have hns26_1 := NB137_152.out
   have hns26_2 := NB138_152.out
   have hns26_3 := NB151_152.out
   have hms26_0 := NB152_136.out
   have hms26_1 := NB152_137.out
   have hms26_2 := NB152_138.out
   have hms26_3 := NB152_151.out
   refine skip_ (w1 := ?_) (by rfl) rfl ?_ ?_
   rotate_left
   ·go_simp
    rfl
   refine hK.out _ _ ⟨gb151, gb152, m6_, m7_, (by rw [ha.out]; exact putSel_none (v := undef) rfl), (by (with_reducible repeat (first | refine blk_drewN ?_ _ | refine blk_drew ?_ | refine blk_alloc ?_ _)); refine blk_far ?_ NB136_152.out _; (with_reducible repeat (first | refine blk_drewN ?_ _ | refine blk_drew ?_ | refine blk_alloc ?_ _)); refine blk_far ?_ NB136_152.out _; (with_reducible repeat (first | refine blk_drewN ?_ _ | refine blk_drew ?_ | refine blk_alloc ?_ _)); refine blk_far ?_ NB136_152.out _; (with_reducible repeat (first | refine blk_drewN ?_ _ | refine blk_drew ?_ | refine blk_alloc ?_ _)); refine blk_far ?_ NB136_152.out _; (with_reducible repeat (first | refine blk_drewN ?_ _ | refine blk_drew ?_ | refine blk_alloc ?_ _)); refine blk_far ?_ NB136_152.out _; (with_reducible repeat (first | refine blk_drewN ?_ _ | refine blk_drew ?_ | refine blk_alloc ?_ _)); refine blk_far ?_ NB136_152.out _; (with_reducible repeat (first | refine blk_drewN ?_ _ | refine blk_drew ?_ | refine blk_alloc ?_ _)); exact BK136.out), (by (with_reducible repeat (first | refine blk_drewN ?_ _ | refine blk_drew ?_ | refine blk_alloc ?_ _)); refine blk_far ?_ NB137_152.out _; (with_reducible repeat (first | refine blk_drewN ?_ _ | refine blk_drew ?_ | refine blk_alloc ?_ _)); refine blk_far ?_ NB137_152.out _; (with_reducible repeat (first | refine blk_drewN ?_ _ | refine blk_drew ?_ | refine blk_alloc ?_ _)); refine blk_far ?_ NB137_152.out _; (with_reducible repeat (first | refine blk_drewN ?_ _ | refine blk_drew ?_ | refine blk_alloc ?_ _)); refine blk_far ?_ NB137_152.out _; (with_reducible repeat (first | refine blk_drewN ?_ _ | refine blk_drew ?_ | refine blk_alloc ?_ _)); refine blk_far ?_ NB137_152.out _; (with_reducible repeat (first | refine blk_drewN ?_ _ | refine blk_drew ?_ | refine blk_alloc ?_ _)); refine blk_far ?_ NB137_152.out _; (with_reducible repeat (first | refine blk_drewN ?_ _ | refine blk_drew ?_ | refine blk_alloc ?_ _)); exact BK137.out), (by (with_reducible repeat (first | refine blk_drewN ?_ _ | refine blk_drew ?_ | refine blk_alloc ?_ _)); refine blk_far ?_ NB138_152.out _; (with_reducible repeat (first | refine blk_drewN ?_ _ | refine blk_drew ?_ | refine blk_alloc ?_ _)); refine blk_far ?_ NB138_152.out _; (with_reducible repeat (first | refine blk_drewN ?_ _ | refine blk_drew ?_ | refine blk_alloc ?_ _)); refine blk_far ?_ NB138_152.out _; (with_reducible repeat (first | refine blk_drewN ?_ _ | refine blk_drew ?_ | refine blk_alloc ?_ _)); refine blk_far ?_ NB138_152.out _; (with_reducible repeat (first | refine blk_drewN ?_ _ | refine blk_drew ?_ | refine blk_alloc ?_ _)); refine blk_far ?_ NB138_152.out _; (with_reducible repeat (first | refine blk_drewN ?_ _ | refine blk_drew ?_ | refine blk_alloc ?_ _)); refine blk_far ?_ NB138_152.out _; (with_reducible repeat (first | refine blk_drewN ?_ _ | refine blk_drew ?_ | refine blk_alloc ?_ _)); exact BK138.out), (fB6 GE136 GE137 GE138 GE151 GE152), fun _ _ => NB152_151.out, fun _ _ => NB151_152.out, fun _ h1_ => absurd ((hon 8 (by kernel_rfl)).symm.trans h1_) (by decide), fun _ => GW151.out, fun _ => GE151.out, fun _ => NB136_151.out, fun _ => NB151_136.out, fun _ => NB137_151.out, fun _ => NB151_137.out, fun _ => NB138_151.out, fun _ => NB151_138.out, fun _ h1_ => absurd ((up_self b 9).symm.trans h1_) (by decide), fun _ => GW152.out, fun _ => GE152.out, fun _ => NB136_152.out, fun _ => NB152_136.out, fun _ => NB137_152.out, fun _ => NB152_137.out, fun _ => NB138_152.out, fun _ => NB152_138.out, fun _ => (by (with_reducible repeat (first | refine blk_drewN ?_ _ | refine blk_drew ?_ | refine blk_alloc ?_ _)); refine blk_far ?_ NB151_152.out _; (with_reducible repeat (first | refine blk_drewN ?_ _ | refine blk_drew ?_ | refine blk_alloc ?_ _)); refine blk_far ?_ NB151_152.out _; (with_reducible repeat (first | refine blk_drewN ?_ _ | refine blk_drew ?_ | refine blk_alloc ?_ _)); refine blk_far ?_ NB151_152.out _; (with_reducible repeat (first | refine blk_drewN ?_ _ | refine blk_drew ?_ | refine blk_alloc ?_ _)); refine blk_far ?_ NB151_152.out _; (with_reducible repeat (first | refine blk_drewN ?_ _ | refine blk_drew ?_ | refine blk_alloc ?_ _)); refine blk_far ?_ NB151_152.out _; (with_reducible repeat (first | refine blk_drewN ?_ _ | refine blk_drew ?_ | refine blk_alloc ?_ _)); refine blk_far ?_ NB151_152.out _; (with_reducible repeat (first | refine blk_drewN ?_ _ | refine blk_drew ?_ | refine blk_alloc ?_ _)); exact BK151.out), fun _ => (by (with_reducible repeat (first | refine blk_drewN ?_ _ | refine blk_drew ?_ | refine blk_alloc ?_ _)); refine blk_put (cs := #[.int .i64 t145, .int .i64 t146, .int .i64 t147, .int .i64 t148, .int .i64 t149, .int .i64 0]) ?_ 5 _ rfl; (with_reducible repeat (first | refine blk_drewN ?_ _ | refine blk_drew ?_ | refine blk_alloc ?_ _)); refine blk_put (cs := #[.int .i64 t145, .int .i64 t146, .int .i64 t147, .int .i64 t148, .int .i64 0, .int .i64 0]) ?_ 4 _ rfl; (with_reducible repeat (first | refine blk_drewN ?_ _ | refine blk_drew ?_ | refine blk_alloc ?_ _)); refine blk_put (cs := #[.int .i64 t145, .int .i64 t146, .int .i64 t147, .int .i64 0, .int .i64 0, .int .i64 0]) ?_ 3 _ rfl; (with_reducible repeat (first | refine blk_drewN ?_ _ | refine blk_drew ?_ | refine blk_alloc ?_ _)); refine blk_put (cs := #[.int .i64 t145, .int .i64 t146, .int .i64 0, .int .i64 0, .int .i64 0, .int .i64 0]) ?_ 2 _ rfl; (with_reducible repeat (first | refine blk_drewN ?_ _ | refine blk_drew ?_ | refine blk_alloc ?_ _)); refine blk_put (cs := #[.int .i64 t145, .int .i64 0, .int .i64 0, .int .i64 0, .int .i64 0, .int .i64 0]) ?_ 1 _ rfl; (with_reducible repeat (first | refine blk_drewN ?_ _ | refine blk_drew ?_ | refine blk_alloc ?_ _)); refine blk_put (cs := #[.int .i64 0, .int .i64 0, .int .i64 0, .int .i64 0, .int .i64 0, .int .i64 0]) ?_ 0 _ rfl; (with_reducible repeat (first | refine blk_drewN ?_ _ | refine blk_drew ?_ | refine blk_alloc ?_ _)); exact BK152.out), Q_X6_, Q_X7_⟩
  exact steps_nil
 rintro b a w26 hall ⟨gb151, gb152, m6_, m7_, ha, Q_BK136, Q_BK137, Q_BK138, Q_HB, Q_NB152_151, Q_NB151_152, Q_BK151, Q_GW151, Q_GE151, Q_NB136_151, Q_NB151_136, Q_NB137_151, Q_NB151_137, Q_NB138_151, Q_NB151_138, Q_BK152, Q_GW152, Q_GE152, Q_NB136_152, Q_NB152_136, Q_NB137_152, Q_NB152_137, Q_NB138_152, Q_NB152_138, Q_BK151_e8, Q_BK152_e9, Q_X6_, Q_X7_⟩
 clear BK136 BK137 BK138 HB
 have hb0_ := hall 0 (by kernel_rfl)
 have hb1_ := hall 1 (by kernel_rfl)
 have hb2_ := hall 2 (by kernel_rfl)
 have hb3_ := hall 3 (by kernel_rfl)
 have hb4_ := hall 4 (by kernel_rfl)
 have hb5_ := hall 5 (by kernel_rfl)
 have hb6_ := hall 6 (by kernel_rfl)
 have hb7_ := hall 7 (by kernel_rfl)
 have hb8_ := hall 8 (by kernel_rfl)
 have hb9_ := hall 9 (by kernel_rfl)
 subst ha
 obtain rfl := Q_X6_ hb6_
 obtain rfl := Q_X7_ hb7_
 simp only [putSel, hb0_, hb1_, hb2_, hb3_, hb4_, hb5_, hb6_, hb7_, hb8_, hb9_, if_true, Act.put, List.setIfInBounds_toArray, List.set_cons_zero, List.set_cons_succ]
 have BK136 := Aside0.mk Q_BK136
 clear Q_BK136
 have BK137 := Aside0.mk Q_BK137
 clear Q_BK137
 have BK138 := Aside0.mk Q_BK138
 clear Q_BK138
 have HB := Aside0.mk Q_HB
 clear Q_HB
 have NB152_151 := Aside0.mk (Q_NB152_151 hb6_ hb7_)
 clear Q_NB152_151
 have NB151_152 := Aside0.mk (Q_NB151_152 hb6_ hb7_)
 clear Q_NB151_152
 clear Q_BK151
 have GW151 := Aside0.mk (Q_GW151 hb6_)
 clear Q_GW151
 have GE151 := Aside0.mk (Q_GE151 hb6_)
 clear Q_GE151
 have NB136_151 := Aside0.mk (Q_NB136_151 hb6_)
 clear Q_NB136_151
 have NB151_136 := Aside0.mk (Q_NB151_136 hb6_)
 clear Q_NB151_136
 have NB137_151 := Aside0.mk (Q_NB137_151 hb6_)
 clear Q_NB137_151
 have NB151_137 := Aside0.mk (Q_NB151_137 hb6_)
 clear Q_NB151_137
 have NB138_151 := Aside0.mk (Q_NB138_151 hb6_)
 clear Q_NB138_151
 have NB151_138 := Aside0.mk (Q_NB151_138 hb6_)
 clear Q_NB151_138
 clear Q_BK152
 have GW152 := Aside0.mk (Q_GW152 hb7_)
 clear Q_GW152
 have GE152 := Aside0.mk (Q_GE152 hb7_)
 clear Q_GE152
 have NB136_152 := Aside0.mk (Q_NB136_152 hb7_)
 clear Q_NB136_152
 have NB152_136 := Aside0.mk (Q_NB152_136 hb7_)
 clear Q_NB152_136
 have NB137_152 := Aside0.mk (Q_NB137_152 hb7_)
 clear Q_NB137_152
 have NB152_137 := Aside0.mk (Q_NB152_137 hb7_)
 clear Q_NB152_137
 have NB138_152 := Aside0.mk (Q_NB138_152 hb7_)
 clear Q_NB138_152
 have NB152_138 := Aside0.mk (Q_NB152_138 hb7_)
 clear Q_NB152_138
 have BK151 := Aside0.mk (Q_BK151_e8 hb8_)
 clear Q_BK151_e8
 have BK152 := Aside0.mk (Q_BK152_e9 hb9_)
 clear Q_BK152_e9
 clear hall hb0_ hb1_ hb2_ hb3_ hb4_ hb5_ hb6_ hb7_ hb8_ hb9_
 try go_wp2
 go_loopg [9] k (fun kq v9 w' => ∃ (x9_1 : Int), v9 = .int .i64 x9_1 ∧ Aside0 (conciergeref15_Less.l0 kq x9_1 t139 t140 t141 t142 t143 t144 t145 t146 t147 t148 t149 t150 = some r) ∧ Aside0 (kq ≤ k) ∧ Aside0 (w'.heap[gb136]? = some (.cells #[(.slice A0_0 l0_0.length c0_0), (.slice A0_1 l0_1.length c0_1)] 28 (0, 0))) ∧ Aside0 (w'.heap[gb137]? = some (.cells #[.string a1_0, .string a1_1] 34 (0, 0))) ∧ Aside0 (w'.heap[gb138]? = some (.cells #[.string a2_0, .string a2_1] 34 (0, 0))) ∧ Aside0 (w'.heap[gb151]? = some (.cells #[.int .i64 t139, .int .i64 t140, .int .i64 t141, .int .i64 t142, .int .i64 t143, .int .i64 t144] 35 (0, 0))) ∧ Aside0 (w'.heap[gb152]? = some (.cells #[.int .i64 t145, .int .i64 t146, .int .i64 t147, .int .i64 t148, .int .i64 t149, .int .i64 t150] 35 (0, 0))) ∧ Aside0 (Below w.heap.size w w'))
 case atStart => exact ⟨(0), s1_, H', ⟨Nat.le_refl _⟩, ⟨(fA1 BK136)⟩, ⟨(fA1 BK137)⟩, ⟨(fA1 BK138)⟩, ⟨(fA1 BK151)⟩, ⟨(fA1 BK152)⟩, ⟨(fB6 GE136 GE137 GE138 GE151 GE152)⟩⟩
 case round =>
  clear H'
  try clear c1
  try clear c2
  try clear p2
  try clear c14
  obtain ⟨x9_1, rfl, HA, HK1, BK136, BK137, BK138, BK151, BK152, HB⟩ := hrel
  cases gk with
  | zero => exact absurd HA.out (by simp [conciergeref15_Less.l0])
  | succ k1 =>
   have H := HA.out
   clear HA
   simp only [conciergeref15_Less.l0] at H
   by_cases c27 : x9_1 < 6
   ·rw [if_pos c27] at H
    have c27b0 : decide (x9_1 < 6) = true := decide_eq_true c27
    clear c27
    by_cases c29 : 0 ≤ x9_1
    ·rw [if_pos c29] at H
     have q29_ : x9_1 < 6 := of_decide_eq_true c27b0
     have X1 : ∀ w' : World, w'.heap[gb151]? = some (.cells #[.int .i64 t139, .int .i64 t140, .int .i64 t141, .int .i64 t142, .int .i64 t143, .int .i64 t144] 35 (0, 0)) → w'.cell? ⟨gb151, x9_1.toNat, none⟩ = some (.int .i64 (ix6 x9_1 t139 t140 t141 t142 t143 t144)) := fun w' h => ix6_cell h c29 q29_
     have X2 : ∀ w' : World, w'.heap[gb152]? = some (.cells #[.int .i64 t145, .int .i64 t146, .int .i64 t147, .int .i64 t148, .int .i64 t149, .int .i64 t150] 35 (0, 0)) → w'.cell? ⟨gb152, x9_1.toNat, none⟩ = some (.int .i64 (ix6 x9_1 t145 t146 t147 t148 t149 t150)) := fun w' h => ix6_cell h c29 q29_
     generalize ix6 x9_1 t139 t140 t141 t142 t143 t144 = u1 at H X1
     generalize ix6 x9_1 t145 t146 t147 t148 t149 t150 = u2 at H X2
     have p29 := eq_true c29
     have q29 := eq_true q29_
     clear c29 q29_
     by_cases c28 : u1 = u2
     ·rw [if_pos c28] at H
      have c28b0 : (u1 == u2) = true := beq_iff_eq.mpr c28
      have c28b1 : (u1 != u2) = false := bne_eq_false_iff_eq.mpr c28
      clear c28
      have H' := Aside0.mk H
      clear H
      try go_wp2
      have n0_ := Aside0.mk (blk_drew BK136.out)
      have n1_ := Aside0.mk (blk_drew BK137.out)
      have n2_ := Aside0.mk (blk_drew BK138.out)
      have n3_ := Aside0.mk (blk_drew BK151.out)
      have n4_ := Aside0.mk (blk_drew BK152.out)
      have n5_ := Aside0.mk (below_drew1 HB.out)
      clear BK136
      clear BK137
      clear BK138
      clear BK151
      clear BK152
      clear HB
      have BK136 := n0_
      have BK137 := n1_
      have BK138 := n2_
      have BK151 := n3_
      have BK152 := n4_
      have HB := n5_
      clear n0_ n1_ n2_ n3_ n4_ n5_
      refine start_ (n := 7) (S := fun w' => w'.cell? ⟨gb151, x9_1.toNat, none⟩ = some (.int .i64 u1) ∧ w'.cell? ⟨gb152, x9_1.toNat, none⟩ = some (.int .i64 u2)) (ds := []) #[false, false, false, false, false, false, false] (by kernel_rfl) rfl rfl ⟨X1 _ BK151.out, X2 _ BK152.out⟩ (fun hHeld => ?_)
      generalize wr.drew = w29 at BK136 BK137 BK138 BK151 BK152 HB hHeld ⊢
      refine pure_ (i := 0) (N := some 20) (v := ?_) (a' := ?_) #[true, false, false, false, false, false, false] rfl rfl (by kernel_rfl) (fun _ _ _ h => h) (Or.inl ⟨by rfl, ?_⟩) ?_ ?_
      rotate_left
      ·intro w'
       go_simp
       with_reducible rfl
      rotate_left
      ·simp only [Act.put, List.setIfInBounds_toArray, List.set_cons_zero, List.set_cons_succ, i64_w, i32_w]
       rfl
      refine pure_ (i := 1) (N := some 21) (v := ?_) (a' := ?_) #[true, true, false, false, false, false, false] rfl rfl (by kernel_rfl) (fun _ _ _ h => h) (Or.inl ⟨by rfl, ?_⟩) ?_ ?_
      rotate_left
      ·intro w'
       go_simp
       with_reducible rfl
      rotate_left
      ·simp only [Act.put, List.setIfInBounds_toArray, List.set_cons_zero, List.set_cons_succ, i64_w, i32_w]
       rfl
      refine pure_ (i := 3) (N := some 23) (v := ?_) (a' := ?_) #[true, true, false, true, false, false, false] rfl rfl (by kernel_rfl) (fun _ _ _ h => h) (Or.inl ⟨by rfl, ?_⟩) ?_ ?_
      rotate_left
      ·intro w'
       go_simp
       with_reducible rfl
      rotate_left
      ·simp only [Act.put, List.setIfInBounds_toArray, List.set_cons_zero, List.set_cons_succ, i64_w, i32_w]
       rfl
      refine pure_ (i := 4) (N := some 24) (v := ?_) (a' := ?_) #[true, true, false, true, true, false, false] rfl rfl (by kernel_rfl) (fun _ _ _ h => h) (Or.inl ⟨by rfl, ?_⟩) ?_ ?_
      rotate_left
      ·intro w'
       go_simp
       with_reducible rfl
      rotate_left
      ·simp only [Act.put, List.setIfInBounds_toArray, List.set_cons_zero, List.set_cons_succ, i64_w, i32_w]
       rfl
      refine take_ (i := 2) (N := some 22) (v := ?_) (a' := ?_) #[true, true, true, true, true, false, false] rfl rfl (by kernel_rfl) (fun _ _ _ h => h) (Or.inl ⟨by rfl, ?_⟩) hHeld ?_ ?_
      rotate_left
      ·rintro w' ⟨s0, s1⟩
       go_simp
       with_reducible rfl
      rotate_left
      ·simp only [Act.put, List.setIfInBounds_toArray, List.set_cons_zero, List.set_cons_succ, i64_w, i32_w]
       rfl
      refine take_ (i := 5) (N := some 25) (v := ?_) (a' := ?_) #[true, true, true, true, true, true, false] rfl rfl (by kernel_rfl) (fun _ _ _ h => h) (Or.inl ⟨by rfl, ?_⟩) hHeld ?_ ?_
      rotate_left
      ·rintro w' ⟨s0, s1⟩
       go_simp
       with_reducible rfl
      rotate_left
      ·simp only [Act.put, List.setIfInBounds_toArray, List.set_cons_zero, List.set_cons_succ, i64_w, i32_w]
       rfl
      refine pure_ (i := 6) (N := some 26) (v := ?_) (a' := ?_) #[true, true, true, true, true, true, true] rfl rfl (by kernel_rfl) (fun _ _ _ h => h) (Or.inl ⟨by rfl, ?_⟩) ?_ ?_
      rotate_left
      ·intro w'
       go_simp
       with_reducible rfl
      rotate_left
      ·simp only [Act.put, List.setIfInBounds_toArray, List.set_cons_zero, List.set_cons_succ, i64_w, i32_w]
       rfl
      refine done_ (by kernel_rfl) ?_
      try go_wp2
      go_roundg k1
      case measure => have := HK1.out; omega
      case rel => exact ⟨(wrap64 (x9_1 + 1)), s1_, H', ⟨by have := HK1.out; omega⟩, ⟨(fA1 BK136)⟩, ⟨(fA1 BK137)⟩, ⟨(fA1 BK138)⟩, ⟨(fA1 BK151)⟩, ⟨(fA1 BK152)⟩, ⟨(fB6 GE136 GE137 GE138 GE151 GE152)⟩⟩
     ·rw [if_neg c28] at H
      have c28b0 : (u1 == u2) = false := beq_eq_false_iff_ne.mpr c28
      have c28b1 : (u1 != u2) = true := bne_iff_ne.mpr c28
      obtain rfl := Option.some.inj H
      try go_wp2
      have n0_ := Aside0.mk (blk_drew BK136.out)
      have n1_ := Aside0.mk (blk_drew BK137.out)
      have n2_ := Aside0.mk (blk_drew BK138.out)
      have n3_ := Aside0.mk (blk_drew BK151.out)
      have n4_ := Aside0.mk (blk_drew BK152.out)
      have n5_ := Aside0.mk (below_drew1 HB.out)
      clear BK136
      clear BK137
      clear BK138
      clear BK151
      clear BK152
      clear HB
      have BK136 := n0_
      have BK137 := n1_
      have BK138 := n2_
      have BK151 := n3_
      have BK152 := n4_
      have HB := n5_
      clear n0_ n1_ n2_ n3_ n4_ n5_
      refine start_ (n := 7) (S := fun w' => w'.cell? ⟨gb151, x9_1.toNat, none⟩ = some (.int .i64 u1) ∧ w'.cell? ⟨gb152, x9_1.toNat, none⟩ = some (.int .i64 u2)) (ds := []) #[false, false, false, false, false, false, false] (by kernel_rfl) rfl rfl ⟨X1 _ BK151.out, X2 _ BK152.out⟩ (fun hHeld => ?_)
      generalize wr.drew = w30 at BK136 BK137 BK138 BK151 BK152 HB hHeld ⊢
      refine pure_ (i := 0) (N := some 20) (v := ?_) (a' := ?_) #[true, false, false, false, false, false, false] rfl rfl (by kernel_rfl) (fun _ _ _ h => h) (Or.inl ⟨by rfl, ?_⟩) ?_ ?_
      rotate_left
      ·intro w'
       go_simp
       with_reducible rfl
      rotate_left
      ·simp only [Act.put, List.setIfInBounds_toArray, List.set_cons_zero, List.set_cons_succ, i64_w, i32_w]
       rfl
      refine pure_ (i := 1) (N := some 21) (v := ?_) (a' := ?_) #[true, true, false, false, false, false, false] rfl rfl (by kernel_rfl) (fun _ _ _ h => h) (Or.inl ⟨by rfl, ?_⟩) ?_ ?_
      rotate_left
      ·intro w'
       go_simp
       with_reducible rfl
      rotate_left
      ·simp only [Act.put, List.setIfInBounds_toArray, List.set_cons_zero, List.set_cons_succ, i64_w, i32_w]
       rfl
      refine pure_ (i := 3) (N := some 23) (v := ?_) (a' := ?_) #[true, true, false, true, false, false, false] rfl rfl (by kernel_rfl) (fun _ _ _ h => h) (Or.inl ⟨by rfl, ?_⟩) ?_ ?_
      rotate_left
      ·intro w'
       go_simp
       with_reducible rfl
      rotate_left
      ·simp only [Act.put, List.setIfInBounds_toArray, List.set_cons_zero, List.set_cons_succ, i64_w, i32_w]
       rfl
      refine pure_ (i := 4) (N := some 24) (v := ?_) (a' := ?_) #[true, true, false, true, true, false, false] rfl rfl (by kernel_rfl) (fun _ _ _ h => h) (Or.inl ⟨by rfl, ?_⟩) ?_ ?_
      rotate_left
      ·intro w'
       go_simp
       with_reducible rfl
      rotate_left
      ·simp only [Act.put, List.setIfInBounds_toArray, List.set_cons_zero, List.set_cons_succ, i64_w, i32_w]
       rfl
      refine take_ (i := 2) (N := some 22) (v := ?_) (a' := ?_) #[true, true, true, true, true, false, false] rfl rfl (by kernel_rfl) (fun _ _ _ h => h) (Or.inl ⟨by rfl, ?_⟩) hHeld ?_ ?_
      rotate_left
      ·rintro w' ⟨s0, s1⟩
       go_simp
       with_reducible rfl
      rotate_left
      ·simp only [Act.put, List.setIfInBounds_toArray, List.set_cons_zero, List.set_cons_succ, i64_w, i32_w]
       rfl
      refine take_ (i := 5) (N := some 25) (v := ?_) (a' := ?_) #[true, true, true, true, true, true, false] rfl rfl (by kernel_rfl) (fun _ _ _ h => h) (Or.inl ⟨by rfl, ?_⟩) hHeld ?_ ?_
      rotate_left
      ·rintro w' ⟨s0, s1⟩
       go_simp
       with_reducible rfl
      rotate_left
      ·simp only [Act.put, List.setIfInBounds_toArray, List.set_cons_zero, List.set_cons_succ, i64_w, i32_w]
       rfl
      refine pure_ (i := 6) (N := some 26) (v := ?_) (a' := ?_) #[true, true, true, true, true, true, true] rfl rfl (by kernel_rfl) (fun _ _ _ h => h) (Or.inl ⟨by rfl, ?_⟩) ?_ ?_
      rotate_left
      ·intro w'
       go_simp
       with_reducible rfl
      rotate_left
      ·simp only [Act.put, List.setIfInBounds_toArray, List.set_cons_zero, List.set_cons_succ, i64_w, i32_w]
       rfl
      refine done_ (by kernel_rfl) ?_
      try go_wp2
      have n0_ := Aside0.mk (blk_drew BK136.out)
      have n1_ := Aside0.mk (blk_drew BK137.out)
      have n2_ := Aside0.mk (blk_drew BK138.out)
      have n3_ := Aside0.mk (blk_drew BK151.out)
      have n4_ := Aside0.mk (blk_drew BK152.out)
      have n5_ := Aside0.mk (below_drew1 HB.out)
      clear BK136
      clear BK137
      clear BK138
      clear BK151
      clear BK152
      clear HB
      have BK136 := n0_
      have BK137 := n1_
      have BK138 := n2_
      have BK151 := n3_
      have BK152 := n4_
      have HB := n5_
      clear n0_ n1_ n2_ n3_ n4_ n5_
      refine start_ (n := 8) (S := fun w' => w'.cell? ⟨gb151, x9_1.toNat, none⟩ = some (.int .i64 u1) ∧ w'.cell? ⟨gb152, x9_1.toNat, none⟩ = some (.int .i64 u2)) (ds := []) #[false, false, false, false, false, false, false, false] (by kernel_rfl) rfl rfl ⟨X1 _ BK151.out, X2 _ BK152.out⟩ (fun hHeld => ?_); refine with_tabW conciergeref15_Less.tab6 conciergeref15_Less.bits6 (fun HT_ HW_ => ?_)
      generalize w30.drew = w31 at BK136 BK137 BK138 BK151 BK152 HB hHeld ⊢
      refine pure_ (i := 0) (N := some 27) (v := ?_) (a' := ?_) #[true, false, false, false, false, false, false, false] rfl rfl (any_of HT_.out (by kernel_rfl)) (fun _ _ _ h => h) (Or.inl ⟨by rfl, ?_⟩) ?_ ?_
      rotate_left
      ·intro w'
       go_simp
       with_reducible rfl
      rotate_left
      ·simp only [Act.put, List.setIfInBounds_toArray, List.set_cons_zero, List.set_cons_succ, i64_w, i32_w]
       rfl
      refine pure_ (i := 1) (N := some 28) (v := ?_) (a' := ?_) #[true, true, false, false, false, false, false, false] rfl rfl (any_of HT_.out (by kernel_rfl)) (fun _ _ _ h => h) (Or.inl ⟨by rfl, ?_⟩) ?_ ?_
      rotate_left
      ·intro w'
       go_simp
       with_reducible rfl
      rotate_left
      ·simp only [Act.put, List.setIfInBounds_toArray, List.set_cons_zero, List.set_cons_succ, i64_w, i32_w]
       rfl
      refine pure_ (i := 3) (N := some 30) (v := ?_) (a' := ?_) #[true, true, false, true, false, false, false, false] rfl rfl (any_of HT_.out (by kernel_rfl)) (fun _ _ _ h => h) (Or.inl ⟨by rfl, ?_⟩) ?_ ?_
      rotate_left
      ·intro w'
       go_simp
       with_reducible rfl
      rotate_left
      ·simp only [Act.put, List.setIfInBounds_toArray, List.set_cons_zero, List.set_cons_succ, i64_w, i32_w]
       rfl
      refine pure_ (i := 4) (N := some 31) (v := ?_) (a' := ?_) #[true, true, false, true, true, false, false, false] rfl rfl (any_of HT_.out (by kernel_rfl)) (fun _ _ _ h => h) (Or.inl ⟨by rfl, ?_⟩) ?_ ?_
      rotate_left
      ·intro w'
       go_simp
       with_reducible rfl
      rotate_left
      ·simp only [Act.put, List.setIfInBounds_toArray, List.set_cons_zero, List.set_cons_succ, i64_w, i32_w]
       rfl
      refine take_ (i := 2) (N := some 29) (v := ?_) (a' := ?_) #[true, true, true, true, true, false, false, false] rfl rfl (take_ofW HT_.out HW_.out (by kernel_rfl)) (fun _ _ _ h => h) (Or.inl ⟨by rfl, ?_⟩) hHeld ?_ ?_
      rotate_left
      ·rintro w' ⟨s0, s1⟩
       go_simp
       with_reducible rfl
      rotate_left
      ·simp only [Act.put, List.setIfInBounds_toArray, List.set_cons_zero, List.set_cons_succ, i64_w, i32_w]
       rfl
      refine take_ (i := 5) (N := some 32) (v := ?_) (a' := ?_) #[true, true, true, true, true, true, false, false] rfl rfl (take_ofW HT_.out HW_.out (by kernel_rfl)) (fun _ _ _ h => h) (Or.inl ⟨by rfl, ?_⟩) hHeld ?_ ?_
      rotate_left
      ·rintro w' ⟨s0, s1⟩
       go_simp
       with_reducible rfl
      rotate_left
      ·simp only [Act.put, List.setIfInBounds_toArray, List.set_cons_zero, List.set_cons_succ, i64_w, i32_w]
       rfl
      refine pure_ (i := 6) (N := some 33) (v := ?_) (a' := ?_) #[true, true, true, true, true, true, true, false] rfl rfl (any_of HT_.out (by kernel_rfl)) (fun _ _ _ h => h) (Or.inl ⟨by rfl, ?_⟩) ?_ ?_
      rotate_left
      ·intro w'
       go_simp
       with_reducible rfl
      rotate_left
      ·simp only [Act.put, List.setIfInBounds_toArray, List.set_cons_zero, List.set_cons_succ, i64_w, i32_w]
       rfl
      refine pure_ (i := 7) (N := some 6) (v := ?_) (a' := ?_) #[true, true, true, true, true, true, true, true] rfl rfl (any_of HT_.out (by kernel_rfl)) (fun _ _ _ h => h) (Or.inl ⟨by rfl, ?_⟩) ?_ ?_
      rotate_left
      ·intro w'
       go_simp
       with_reducible rfl
      rotate_left
      ·simp only [Act.put, List.setIfInBounds_toArray, List.set_cons_zero, List.set_cons_succ, i64_w, i32_w]
       rfl
      refine done_ (done_of HT_.out (by kernel_rfl)) ?_
      try go_wp2
      go_ret
      exact ⟨by first | rfl | (simp [errW_none, errW_some] <;> rfl) | (simp [*, errW_none, errW_some] <;> rfl), (fB6 GE136 GE137 GE138 GE151 GE152)⟩
    ·rw [if_neg c29] at H
     exact absurd H (by simp)
   ·rw [if_neg c27] at H
    have c27b0 : decide (x9_1 < 6) = false := decide_eq_false c27
    clear c27
    obtain rfl := Option.some.inj H
    go_wp2
    go_ret
    exact ⟨by first | rfl | (simp [errW_none, errW_some] <;> rfl) | (simp [*, errW_none, errW_some] <;> rfl), (fB6 GE136 GE137 GE138 GE151 GE152)⟩
end Go.Proofs.Ytlfhahnceeoegaa.All
end
