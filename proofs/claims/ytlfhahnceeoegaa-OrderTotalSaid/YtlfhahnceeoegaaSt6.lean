/- OrderTotal: the order goes through; what is sorted is ordered, and a permutation (text 6 of 8) -/
import Derived.Test.YtlfhahnceeoegaaSt2
import Derived.Test.YtlfhahnceeoegaaSt3
import Derived.Test.YtlfhahnceeoegaaSt5
namespace Go.Proofs.YtlfhahnceeoegaaW.PrintLast
end Go.Proofs.YtlfhahnceeoegaaW.PrintLast
namespace Go.Proofs.YtlfhahnceeoegaaW.PrintMore
end Go.Proofs.YtlfhahnceeoegaaW.PrintMore
namespace Go.Proofs.YtlfhahnceeoegaaW.PrintWords
end Go.Proofs.YtlfhahnceeoegaaW.PrintWords
namespace Go.Proofs.YtlfhahnceeoegaaW.PrintLast
open Go Go.RowKit Go.Proofs.YtlfhahnceeoegaaW.PrintWords
theorem pz_ {P : Program} {md : Region.Mode} {ops : Array Oper} {Q : Exit → Act → World → Prop} {S : World → Prop} {ds : List Nat} {oi : Oper} {v : Value} {fuel : Nat} {l : Array Bool} {a a' : Act} {w : World} (i : Nat) (N : Tmp) (hi : ops[i]? = some oi := by rfl) (hN : oi.dst = some N := by rfl) (hc : anyB md ops l (l.toList.set i true).toArray i = true := by exact any_of HT_.out (by kernel_rfl)) (hw : Region.wanted oi (yielded ops a.tmps) = true := by rfl) (hy : ∀ w', (execOp a.eval oi).run P w' = .ok (.value v) w' := by intro w'; go_simp; with_reducible rfl) (ha : a.put (some N) v = a' := by simp only [Act.put, List.setIfInBounds_toArray, List.set_cons_zero, List.set_cons_succ, i64_w, i32_w]; rfl) (hQ : ∀ c a w, Q (.panic c) (a.put oi.dst v) w → Q (.panic c) a w := by exact fun _ _ _ h => h) (h : wpAnyLast P md ops Q S ds fuel (l.toList.set i true).toArray a' w) : wpAnyLast P md ops Q S ds (fuel + 1) l a w := pure_ _ hi hN hc hQ (Or.inl ⟨hw, hy⟩) ha h
theorem py_ {P : Program} {md : Region.Mode} {ops : Array Oper} {Q : Exit → Act → World → Prop} {S : World → Prop} {ds : List Nat} {oi : Oper} {fuel : Nat} {l : Array Bool} {a a' : Act} {w : World} (i : Nat) (N : Tmp) (hi : ops[i]? = some oi := by rfl) (hN : oi.dst = some N := by rfl) (hc : anyB md ops l (l.toList.set i true).toArray i = true := by exact any_of HT_.out (by kernel_rfl)) (hw : Region.wanted oi (yielded ops a.tmps) = false := by rfl) (ha : a.put (some N) undef = a' := by simp only [Act.put, List.setIfInBounds_toArray, List.set_cons_zero, List.set_cons_succ, i64_w, i32_w]; rfl) (hQ : ∀ c a w, Q (.panic c) (a.put oi.dst undef) w → Q (.panic c) a w := by exact fun _ _ _ h => h) (h : wpAnyLast P md ops Q S ds fuel (l.toList.set i true).toArray a' w) : wpAnyLast P md ops Q S ds (fuel + 1) l a w := pure_ _ hi hN hc hQ (Or.inr ⟨hw, rfl⟩) ha h
theorem tz_ {P : Program} {md : Region.Mode} {ops : Array Oper} {Q : Exit → Act → World → Prop} {S : World → Prop} {ds : List Nat} {oi : Oper} {v : Value} {fuel : Nat} {l : Array Bool} {a a' : Act} {w : World} (i : Nat) (N : Tmp) (hi : ops[i]? = some oi := by rfl) (hN : oi.dst = some N := by rfl) (hc : takeB md ops ds l (l.toList.set i true).toArray i = true := by exact take_ofW HT_.out HW_.out (by kernel_rfl)) (hw : Region.wanted oi (yielded ops a.tmps) = true := by rfl) (hy : ∀ w', S w' → (execOp a.eval oi).run P w' = .ok (.value v) w' := by intro w' hs; (repeat (have := hs.1; replace hs := hs.2)); go_simp; with_reducible rfl) (hS : S w := by exact hHeld) (ha : a.put (some N) v = a' := by simp only [Act.put, List.setIfInBounds_toArray, List.set_cons_zero, List.set_cons_succ, i64_w, i32_w]; rfl) (hQ : ∀ c a w, Q (.panic c) (a.put oi.dst v) w → Q (.panic c) a w := by exact fun _ _ _ h => h) (h : wpAnyLast P md ops Q S ds fuel (l.toList.set i true).toArray a' w) : wpAnyLast P md ops Q S ds (fuel + 1) l a w := take_ _ hi hN hc hQ (Or.inl ⟨hw, hy⟩) hS ha h
end Go.Proofs.YtlfhahnceeoegaaW.PrintLast
section
namespace Go.Proofs.Ytlfhahnceeoegaa.All
open Go.RowKit Go.Proofs.YtlfhahnceeoegaaW.PrintWords Go.Proofs.YtlfhahnceeoegaaW.PrintLast Go.Proofs.YtlfhahnceeoegaaW.PrintMore
set_option linter.unusedVariables false
set_option linter.unusedSimpArgs false
mutual
def conciergelaw20_OrderTotal.j0 : Nat → Bool → List (S34) → List (S52) → List ByteArray → Option (Bool)
 | 0, _, _, _, _ => none
 | k + 1, x5, x7, x509000, x509001 => conciergelaw20_OrderTotal.l0 k x5 x7 0 x509000 x509001
def conciergelaw20_OrderTotal.l0 : Nat → Bool → List (S34) → Int → List (S52) → List ByteArray → Option (Bool)
 | 0, _, _, _, _, _ => none
 | k + 1, x5, x7, x8, x509000, x509001 => if x8 < (x7.length : Int) then (conciergelaw20_OrderTotal.l1 k x5 x7 x8 0 x509000 x509001) else ((order_Sort.f k x509000 x509001 x7).bind fun t530 => (if (t530.length : Int) = (x7.length : Int) then (conciergelaw20_OrderTotal.l3 k x5 x7 t530 0 x509000 x509001) else (some false)))
def conciergelaw20_OrderTotal.l1 : Nat → Bool → List (S34) → Int → Int → List (S52) → List ByteArray → Option (Bool)
 | 0, _, _, _, _, _, _ => none
 | k + 1, x5, x7, x8, x9, x509000, x509001 => if x9 < (x7.length : Int) then (if 0 ≤ x8 then (if x8 < (x7.length : Int) then (if 0 ≤ x9 then ((order_Less.f k x509000 x509001 ((rd_T34 x7 x8).f0) ((rd_T34 x7 x8).f1) ((rd_T34 x7 x9).f0) ((rd_T34 x7 x9).f1)).bind fun t517 => (if t517 = true then ((order_Less.f k x509000 x509001 ((rd_T34 x7 x9).f0) ((rd_T34 x7 x9).f1) ((rd_T34 x7 x8).f0) ((rd_T34 x7 x8).f1)).bind fun t520 => (conciergelaw20_OrderTotal.j3 k x5 x7 x8 x9 t520 x509000 x509001)) else (conciergelaw20_OrderTotal.j3 k x5 x7 x8 x9 false x509000 x509001))) else (none)) else (none)) else (none)) else (conciergelaw20_OrderTotal.l0 k x5 x7 (wrap64 (x8 + 1)) x509000 x509001)
def conciergelaw20_OrderTotal.j3 : Nat → Bool → List (S34) → Int → Int → Bool → List (S52) → List ByteArray → Option (Bool)
 | 0, _, _, _, _, _, _, _ => none
 | k + 1, x5, x7, x8, x9, x61, x509000, x509001 => if x61 = true then (some false) else (conciergelaw20_OrderTotal.l2 k x5 x7 x8 x9 0 x509000 x509001)
def conciergelaw20_OrderTotal.l2 : Nat → Bool → List (S34) → Int → Int → Int → List (S52) → List ByteArray → Option (Bool)
 | 0, _, _, _, _, _, _, _ => none
 | k + 1, x5, x7, x8, x9, x10, x509000, x509001 => if x10 < (x7.length : Int) then (if 0 ≤ x8 then (if x8 < (x7.length : Int) then (if 0 ≤ x9 then (if x9 < (x7.length : Int) then ((order_Less.f k x509000 x509001 ((rd_T34 x7 x8).f0) ((rd_T34 x7 x8).f1) ((rd_T34 x7 x9).f0) ((rd_T34 x7 x9).f1)).bind fun t523 => (if t523 = true then (if 0 ≤ x10 then ((order_Less.f k x509000 x509001 ((rd_T34 x7 x9).f0) ((rd_T34 x7 x9).f1) ((rd_T34 x7 x10).f0) ((rd_T34 x7 x10).f1)).bind fun t526 => (if t526 = true then ((order_Less.f k x509000 x509001 ((rd_T34 x7 x8).f0) ((rd_T34 x7 x8).f1) ((rd_T34 x7 x10).f0) ((rd_T34 x7 x10).f1)).bind fun t529 => (if t529 = true then (conciergelaw20_OrderTotal.l2 k x5 x7 x8 x9 (wrap64 (x10 + 1)) x509000 x509001) else (some false))) else (conciergelaw20_OrderTotal.l2 k x5 x7 x8 x9 (wrap64 (x10 + 1)) x509000 x509001))) else (none)) else (conciergelaw20_OrderTotal.l2 k x5 x7 x8 x9 (wrap64 (x10 + 1)) x509000 x509001))) else (none)) else (none)) else (none)) else (none)) else (conciergelaw20_OrderTotal.l1 k x5 x7 x8 (wrap64 (x9 + 1)) x509000 x509001)
def conciergelaw20_OrderTotal.l3 : Nat → Bool → List (S34) → List (S34) → Int → List (S52) → List ByteArray → Option (Bool)
 | 0, _, _, _, _, _, _ => none
 | k + 1, x5, x7, x11, x12, x509000, x509001 => if x12 < (x11.length : Int) then (conciergelaw20_OrderTotal.l4 k x5 x7 x11 x12 0 0 x509000 x509001) else (some x5)
def conciergelaw20_OrderTotal.l4 : Nat → Bool → List (S34) → List (S34) → Int → Int → Int → List (S52) → List ByteArray → Option (Bool)
 | 0, _, _, _, _, _, _, _, _ => none
 | k + 1, x5, x7, x11, x12, x13, x14, x509000, x509001 => if x14 < (x11.length : Int) then (if x14 > x12 then (if 0 ≤ x14 then (if 0 ≤ x12 then (if x12 < (x11.length : Int) then ((order_Less.f k x509000 x509001 ((rd_T34 x11 x14).f0) ((rd_T34 x11 x14).f1) ((rd_T34 x11 x12).f0) ((rd_T34 x11 x12).f1)).bind fun t535 => (conciergelaw20_OrderTotal.j7 k x5 x7 x11 x12 x13 x14 t535 x509000 x509001)) else (none)) else (none)) else (none)) else (conciergelaw20_OrderTotal.j7 k x5 x7 x11 x12 x13 x14 false x509000 x509001)) else (if x13 = 0 then (conciergelaw20_OrderTotal.l3 k x5 x7 x11 (wrap64 (x12 + 1)) x509000 x509001) else (some false))
def conciergelaw20_OrderTotal.j7 : Nat → Bool → List (S34) → List (S34) → Int → Int → Int → Bool → List (S52) → List ByteArray → Option (Bool)
 | 0, _, _, _, _, _, _, _, _, _ => none
 | k + 1, x5, x7, x11, x12, x13, x14, x137, x509000, x509001 => if x137 = true then (some false) else (if 0 ≤ x14 then (if x14 < (x11.length : Int) then (if 0 ≤ x12 then (if x12 < (x11.length : Int) then (if ((rd_T34 x11 x14).f0).toList = ((rd_T34 x11 x12).f0).toList then (conciergelaw20_OrderTotal.j8 k x5 x7 x11 x12 x13 x14 (((rd_T34 x11 x14).f1).toList == ((rd_T34 x11 x12).f1).toList) x509000 x509001) else (conciergelaw20_OrderTotal.j8 k x5 x7 x11 x12 x13 x14 false x509000 x509001)) else (none)) else (none)) else (none)) else (none))
def conciergelaw20_OrderTotal.j8 : Nat → Bool → List (S34) → List (S34) → Int → Int → Int → Bool → List (S52) → List ByteArray → Option (Bool)
 | 0, _, _, _, _, _, _, _, _, _ => none
 | k + 1, x5, x7, x11, x12, x13, x14, x161, x509000, x509001 => if x161 = true then (if 0 ≤ x14 then (if x14 < (x7.length : Int) then (if 0 ≤ x12 then (if x12 < (x11.length : Int) then (if ((rd_T34 x7 x14).f0).toList = ((rd_T34 x11 x12).f0).toList then (if ((rd_T34 x7 x14).f1).toList = ((rd_T34 x11 x12).f1).toList then (conciergelaw20_OrderTotal.l4 k x5 x7 x11 x12 (wrap64 ((wrap64 (x13 + 1)) - 1)) (wrap64 (x14 + 1)) x509000 x509001) else (conciergelaw20_OrderTotal.l4 k x5 x7 x11 x12 (wrap64 (x13 + 1)) (wrap64 (x14 + 1)) x509000 x509001)) else (conciergelaw20_OrderTotal.l4 k x5 x7 x11 x12 (wrap64 (x13 + 1)) (wrap64 (x14 + 1)) x509000 x509001)) else (none)) else (none)) else (none)) else (none)) else (if 0 ≤ x14 then (if x14 < (x7.length : Int) then (if 0 ≤ x12 then (if x12 < (x11.length : Int) then (if ((rd_T34 x7 x14).f0).toList = ((rd_T34 x11 x12).f0).toList then (if ((rd_T34 x7 x14).f1).toList = ((rd_T34 x11 x12).f1).toList then (conciergelaw20_OrderTotal.l4 k x5 x7 x11 x12 (wrap64 (x13 - 1)) (wrap64 (x14 + 1)) x509000 x509001) else (conciergelaw20_OrderTotal.l4 k x5 x7 x11 x12 x13 (wrap64 (x14 + 1)) x509000 x509001)) else (conciergelaw20_OrderTotal.l4 k x5 x7 x11 x12 x13 (wrap64 (x14 + 1)) x509000 x509001)) else (none)) else (none)) else (none)) else (none))
end
def conciergelaw20_OrderTotal.f (k : Nat) (l0 : List Int) (l1 : List (S34)) : Option (Bool) := (conciergelaw20_begun.f k).bind fun t498 => (if t498 = true then ((conciergelaw1_Short.f l0 800).bind fun t499 => ((conciergeref15_Select.f k t499).bind fun bt502 => ((conciergelaw20_Cut.f k l1).bind fun t509 => (if (t509.length : Int) > 8 then (if 8 ≤ (t509.length : Int) then (conciergelaw20_OrderTotal.j0 k t498 (t509.take (8 : Int).toNat) bt502.1 bt502.2) else (none)) else (conciergelaw20_OrderTotal.j0 k t498 t509 bt502.1 bt502.2))))) else (some false))
def conciergelaw20_OrderTotal.T14 : Bool × List (List Nat × List Nat) := (true, [([], []), ([], []), ([], []), ([1, 2], [1, 2]), ([3], [3]), ([], []), ([], []), ([5, 6], [5, 6]), ([7], [7]), ([0, 4, 8], [0, 4, 8]), ([9, 9], [9]), ([10], [10]), ([10], [10]), ([10], [10]), ([12, 13, 10], [10, 12, 13]), ([14, 10], [10, 14]), ([10], [10]), ([10], [10]), ([16, 17, 10], [10, 16, 17]), ([18, 10], [10, 18]), ([11, 15, 19, 10, 10], [10, 11, 15, 19]), ([10, 20], [10, 20])])
def conciergelaw20_OrderTotal.B14 : List Nat := [0, 0, 0, 6, 14, 0, 0, 96, 224, 511, 1023, 2047, 2047, 2047, 14335, 30719, 2047, 2047, 198655, 460799, 1048575, 2097151]
theorem conciergelaw20_OrderTotal.tab14 : rtab .any (opsOf Try.f6 14) = conciergelaw20_OrderTotal.T14 := by kernel_rfl
theorem conciergelaw20_OrderTotal.bits14 : waitsOk conciergelaw20_OrderTotal.T14.2 conciergelaw20_OrderTotal.B14 = true := by kernel_rfl
def conciergelaw20_OrderTotal.T19 : Bool × List (List Nat × List Nat) := (true, [([], []), ([], []), ([], []), ([1, 2], [1, 2]), ([3], [3]), ([], []), ([], []), ([5, 6], [5, 6]), ([7], [7]), ([0, 4, 8], [0, 4, 8]), ([9, 9], [9]), ([10], [10]), ([10], [10]), ([10], [10]), ([12, 13, 10], [10, 12, 13]), ([14, 10], [10, 14]), ([10], [10]), ([10], [10]), ([16, 17, 10], [10, 16, 17]), ([18, 10], [10, 18]), ([11, 15, 19, 10, 10], [10, 11, 15, 19]), ([10, 20], [10, 20]), ([21, 20], [21]), ([22], [22]), ([22], [22]), ([22], [22]), ([24, 25, 22], [22, 24, 25]), ([26, 22], [22, 26]), ([22], [22]), ([22], [22]), ([28, 29, 22], [22, 28, 29]), ([30, 22], [22, 30]), ([23, 27, 31, 22, 22], [22, 23, 27, 31]), ([32, 22], [22, 32]), ([22, 33], [22, 33])])
def conciergelaw20_OrderTotal.B19 : List Nat := [0, 0, 0, 6, 14, 0, 0, 96, 224, 511, 1023, 2047, 2047, 2047, 14335, 30719, 2047, 2047, 198655, 460799, 1048575, 2097151, 4194303, 8388607, 8388607, 8388607, 58720255, 125829119, 8388607, 8388607, 813694975, 1887436799, 4294967295, 8589934591, 17179869183]
theorem conciergelaw20_OrderTotal.tab19 : rtab .any (opsOf Try.f6 19) = conciergelaw20_OrderTotal.T19 := by kernel_rfl
theorem conciergelaw20_OrderTotal.bits19 : waitsOk conciergelaw20_OrderTotal.T19.2 conciergelaw20_OrderTotal.B19 = true := by kernel_rfl
def conciergelaw20_OrderTotal.T31 : Bool × List (List Nat × List Nat) := (true, [([], []), ([], []), ([0, 1], [0, 1]), ([2], [2]), ([3], [3]), ([3], [3]), ([3], [3]), ([5, 6, 3], [3, 5, 6]), ([7, 3], [3, 7]), ([3], [3]), ([3], [3]), ([9, 10, 3], [3, 9, 10]), ([11, 3], [3, 11]), ([4, 8, 12, 3, 3], [3, 4, 8, 12]), ([3, 13], [3, 13])])
def conciergelaw20_OrderTotal.B31 : List Nat := [0, 0, 3, 7, 15, 15, 15, 111, 239, 15, 15, 1551, 3599, 8191, 16383]
theorem conciergelaw20_OrderTotal.tab31 : rtab .any (opsOf Try.f6 31) = conciergelaw20_OrderTotal.T31 := by kernel_rfl
theorem conciergelaw20_OrderTotal.bits31 : waitsOk conciergelaw20_OrderTotal.T31.2 conciergelaw20_OrderTotal.B31 = true := by kernel_rfl
def conciergelaw20_OrderTotal.T33 : Bool × List (List Nat × List Nat) := (true, [([], []), ([], []), ([0, 1], [0, 1]), ([2], [2]), ([3], [3]), ([], []), ([], []), ([5, 6], [5, 6]), ([7], [7]), ([8], [8]), ([4, 9], [4, 9]), ([10], [10]), ([11], [11]), ([11], [11]), ([12, 13, 11], [11, 12, 13]), ([14, 11], [11, 14]), ([15, 11], [11, 15]), ([11], [11]), ([11], [11]), ([17, 18, 11], [11, 17, 18]), ([19, 11], [11, 19]), ([20, 11], [11, 20]), ([16, 21, 11], [11, 16, 21]), ([11, 22], [11, 22])])
def conciergelaw20_OrderTotal.B33 : List Nat := [0, 0, 3, 7, 15, 0, 0, 96, 224, 480, 1023, 2047, 4095, 4095, 16383, 32767, 65535, 4095, 4095, 397311, 921599, 1970175, 4194303, 8388607]
theorem conciergelaw20_OrderTotal.tab33 : rtab .any (opsOf Try.f6 33) = conciergelaw20_OrderTotal.T33 := by kernel_rfl
theorem conciergelaw20_OrderTotal.bits33 : waitsOk conciergelaw20_OrderTotal.T33.2 conciergelaw20_OrderTotal.B33 = true := by kernel_rfl
def conciergelaw20_OrderTotal.T35 : Bool × List (List Nat × List Nat) := (true, [([], []), ([], []), ([0, 1], [0, 1]), ([2], [2]), ([3], [3]), ([], []), ([], []), ([5, 6], [5, 6]), ([7], [7]), ([8], [8]), ([4, 9], [4, 9]), ([10], [10]), ([11], [11]), ([11], [11]), ([12, 13, 11], [11, 12, 13]), ([14, 11], [11, 14]), ([15, 11], [11, 15]), ([11], [11]), ([11], [11]), ([17, 18, 11], [11, 17, 18]), ([19, 11], [11, 19]), ([20, 11], [11, 20]), ([16, 21, 11], [11, 16, 21]), ([11, 22], [11, 22])])
def conciergelaw20_OrderTotal.B35 : List Nat := [0, 0, 3, 7, 15, 0, 0, 96, 224, 480, 1023, 2047, 4095, 4095, 16383, 32767, 65535, 4095, 4095, 397311, 921599, 1970175, 4194303, 8388607]
theorem conciergelaw20_OrderTotal.tab35 : rtab .any (opsOf Try.f6 35) = conciergelaw20_OrderTotal.T35 := by kernel_rfl
theorem conciergelaw20_OrderTotal.bits35 : waitsOk conciergelaw20_OrderTotal.T35.2 conciergelaw20_OrderTotal.B35 = true := by kernel_rfl
set_option maxHeartbeats 8000000 in
set_option maxRecDepth 100000 in
theorem conciergelaw20_OrderTotal.calls (k : Nat) (A0 : Option Addr) (c0 : Nat) (l0 : List Int) (A1 : Option Addr) (c1 : Nat) (l1 : List (S34)) (r : Bool) (w : World) (hr0 : Kd.C (Kd.int .u8) w A0 l0.length l0) (hc0 : l0.length ≤ c0) (hr1 : Kd.C k34 w A1 l1.length l1) (hc1 : l1.length ≤ c1) (h : conciergelaw20_OrderTotal.f k l0 l1 = some r) :
  Calls Try.prog 6 #[.slice A0 l0.length c0, .slice A1 l1.length c1] w fun e w' => e = .returned (.bool r) ∧ Below w.heap.size w w' := by
 have hu28 := Try.underlying28
 have hu34 := Try.underlying34
 have HR0 := Aside0.mk hr0
 have HC0 := Aside0.mk hc0
 clear hr0 hc0
 have HR1 := Aside0.mk hr1
 have HC1 := Aside0.mk hc1
 clear hr1 hc1
 have HB := Aside0.mk (Below.refl w.heap.size w)
 have H : ((conciergelaw20_begun.f k).bind fun t498 => (if t498 = true then ((conciergelaw1_Short.f l0 800).bind fun t499 => ((conciergeref15_Select.f k t499).bind fun bt502 => ((conciergelaw20_Cut.f k l1).bind fun t509 => (if (t509.length : Int) > 8 then (if 8 ≤ (t509.length : Int) then (conciergelaw20_OrderTotal.j0 k t498 (t509.take (8 : Int).toNat) bt502.1 bt502.2) else (none)) else (conciergelaw20_OrderTotal.j0 k t498 t509 bt502.1 bt502.2))))) else (some false))) = some r := h
 clear h
 replace H := Option.bind_eq_some_iff.mp H
 obtain ⟨t498, A30, H⟩ := H
 have A3 := Aside0.mk A30
 clear A30
 by_cases c4 : t498 = true
 ·subst c4
  rw [if_pos rfl] at H
  replace H := Option.bind_eq_some_iff.mp H
  obtain ⟨t499, A50, H⟩ := H
  have A5 := Aside0.mk A50
  clear A50
  replace H := Option.bind_eq_some_iff.mp H
  obtain ⟨⟨t502, t505⟩, A60, H⟩ := H
  have A6 := Aside0.mk A60
  clear A60
  replace H := Option.bind_eq_some_iff.mp H
  obtain ⟨t509, A70, H⟩ := H
  have A7 := Aside0.mk A70
  clear A70
  have HC8 := Aside0.mk H
  clear H
  go_enter Try.func6, Try.ntmps6
  go_upto_if 25 with (first | ((with_reducible refine gate_callee (f := 7) rfl ?_); refine goesL_ (some 15) rfl rfl Try.func7 (by kernel_rfl) rfl #[] rfl s2_ ?_; (with_reducible refine (conciergelaw20_begun.calls k  true _ A3.out).mono ?_); rintro e w9 ⟨rfl, hb⟩; refine ⟨_, rfl, ?_⟩; have n0_ := Aside0.mk (below_step (fB0) hb); clear HB; have HB := n0_; clear n0_; (try clear hb); (try clear hb2); (try clear hk); (try clear hi)) | ((with_reducible refine gate_callee (f := 9) rfl ?_); refine goesL_ (some 19) rfl rfl Try.func9 (by kernel_rfl) rfl #[.slice A0 l0.length c0, .int .i64 800] rfl s2_ ?_; (with_reducible refine (conciergelaw1_Short.calls (fun k_ => k_ < w.heap.size) _ _ l0 800 t499 _ ?side1 A5.out).mono ?_); (case side1 => exact Kd.V_mk HC0.out (Kd.F_below (Kd.C_F (Kd.heap_int .u8) HR0.out) (fB0))); rintro e w10 ⟨v500, rfl, ho0, hb⟩; refine ⟨_, rfl, ?_⟩; have n0_ := Aside0.mk (Kd.V_lower (Kd.V_mono (ok' := fun k_ => True) ho0 (fun k_ hk_ => trivial)) (below_size (fB0))); have n1_ := Aside0.mk (below_step (fB0) hb); clear HB; have HO501 := n0_; have HB := n1_; clear n0_ n1_; (try clear hb); (try clear hb2); (try clear hk); (try clear hi); (try clear ho0); obtain ⟨Ao11, co11, eo11⟩ := Kd.V_slice HO501.out; subst eo11) | ((with_reducible refine gate_callee (f := 8) rfl ?_); refine goesL_ (some 20) rfl rfl Try.func8 (by kernel_rfl) rfl #[.slice Ao11 t499.length co11] rfl s2_ ?_; (with_reducible refine (conciergeref15_Select.calls k _ _ t499 t502 t505 _ ?side1 ?side2 A6.out).mono ?_); (case side1 => repeat (first | exact (Kd.V_reads' HO501.out).2.2 | (with_reducible refine Kd.C_alloc ?_ _) | (with_reducible refine Kd.C_drewN ?_ _) | (with_reducible refine Kd.C_drew ?_))); (case side2 => exact (Kd.V_reads' HO501.out).2.1); rintro e w12 ⟨v503, v506, rfl, ho0, ho1, hb⟩; refine ⟨_, rfl, ?_⟩; have n0_ := Aside0.mk (Kd.V_mono (Kd.V_told (Kd.V_told (Kd.V_old (fA3 HO501) hb) (Kd.R_base ho0)) (Kd.R_base ho1)) (fun _ h_ => h_.1)); have n1_ := Aside0.mk (Kd.R_lower ho0 (below_size (fB0))); have n2_ := Aside0.mk (Kd.R_lower ho1 (below_size (fB0))); have n3_ := Aside0.mk (below_step (fB0) hb); clear HO501; clear HB; have HO501 := n0_; have HO504 := n1_; have HO507 := n2_; have HB := n3_; clear n0_ n1_ n2_ n3_; (try clear hb); (try clear hb2); (try clear hk); (try clear hi); (try clear ho0); (try clear ho1)) | ((with_reducible refine gate_dst (N := 6) rfl ?_); refine box_event ?hg (N := 6) ?hd (cs := #[.slice none 0 0, .slice none 0 0]) (t := 28) ?hr ?_; (case hd => rfl); (case hg => rfl); (case hr => first | (go_simp; done) | (go_simp; rfl)); intro gb508 hg w13 hbox hb; have n0_ := Aside0.mk (Kd.V_below (Kd.V_elderB (fA3 HO501) gb508 (Nat.le_of_eq hg.symm)) hb); have n1_ := Aside0.mk (Kd.R_below (fA0 HO504) hb); have n2_ := Aside0.mk (Kd.R_below (fA0 HO507) hb); have n3_ := Aside0.mk (below_step (fB0) hb); have n4_ := Aside0.mk (hbox); have n5_ := Aside0.mk ((by rw [hg]; exact (below_size (fB0)) : w.heap.size ≤ gb508)); have n6_ := Aside0.mk ((by rw [hg]; exact (below_size (fB0)) : w.heap.size ≤ gb508)); clear HO501; clear HO504; clear HO507; clear HB; have HO501 := n0_; have HO504 := n1_; have HO507 := n2_; have HB := n3_; have BK508 := n4_; have GW508 := n5_; have GE508 := n6_; clear n0_ n1_ n2_ n3_ n4_ n5_ n6_; clear hb hbox hg; obtain ⟨Ao14, co14, eo14⟩ := Kd.R_slice HO504.out; subst eo14; have hcz15_0 : w13.cell? ⟨gb508, 0, none⟩ = some (.slice none 0 0) := (blk_cell BK508.out 0).trans rfl; have hcz15_1 : w13.cell? ⟨gb508, 1, none⟩ = some (.slice none 0 0) := (blk_cell BK508.out 1).trans rfl; have hfz15_0 := blk_frozen BK508.out 0; have hfz15_1 := blk_frozen BK508.out 1; obtain ⟨Ao16, co16, eo16⟩ := Kd.R_slice HO507.out; subst eo16) | ((with_reducible refine gate_callee (f := 10) rfl ?_); refine goesL_ (some 22) rfl rfl Try.func10 (by kernel_rfl) rfl #[.slice A1 l1.length c1] rfl s2_ ?_; (with_reducible refine (conciergelaw20_Cut.calls k _ _ l1 t509 _ ?side1 ?side2 A7.out).mono ?_); (case side1 => exact Kd.C_below HR1.out (fB1 GE508)); (case side2 => exact HC1.out); rintro e w17 ⟨v510, rfl, ho0, hb⟩; refine ⟨_, rfl, ?_⟩; have n0_ := Aside0.mk (Kd.V_elder' (by (with_reducible repeat (first | apply Kd.V_alloc | apply Kd.V_drewN | apply Kd.V_drew)); exact (Kd.V_mono (Kd.V_far (p := ⟨gb508, 1, none⟩) (Kd.V_far (p := ⟨gb508, 0, none⟩) (Kd.V_mono HO501.out (fun k_ hk => (⟨hk, hk.2⟩ : _ ∧ k_ ≠ gb508))) (fun _ hk => hk.2) (.slice Ao14 t502.length co14)) (fun _ hk => hk.2) (.slice Ao16 t505.length co16)) (fun _ h_ => h_.1))) (Kd.R_base ho0) hb); have n1_ := Aside0.mk (Kd.R_below (by (with_reducible repeat (first | apply Kd.R_alloc | apply Kd.R_drewN | apply Kd.R_drew)); exact (Kd.R_mono (Kd.R_far (p := ⟨gb508, 1, none⟩) (Kd.R_far (p := ⟨gb508, 0, none⟩) (Kd.R_types HO504.out BK508.out (by decide)) (fun _ hk => hk.2) (.slice Ao14 t502.length co14)) (fun _ hk => hk.2) (.slice Ao16 t505.length co16)) (fun _ h_ => h_.1))) hb); have n2_ := Aside0.mk (Kd.R_below (by (with_reducible repeat (first | apply Kd.R_alloc | apply Kd.R_drewN | apply Kd.R_drew)); exact (Kd.R_mono (Kd.R_far (p := ⟨gb508, 1, none⟩) (Kd.R_far (p := ⟨gb508, 0, none⟩) (Kd.R_types HO507.out BK508.out (by decide)) (fun _ hk => hk.2) (.slice Ao14 t502.length co14)) (fun _ hk => hk.2) (.slice Ao16 t505.length co16)) (fun _ h_ => h_.1))) hb); have n3_ := Aside0.mk (Kd.R_lower ho0 (below_size (fB1 GE508))); have n4_ := Aside0.mk (blk_below (g := gb508) (o := .cells #[.slice Ao14 t502.length co14, .slice Ao16 t505.length co16] 28 (0, 0)) (by (with_reducible repeat (first | refine blk_drewN ?_ _ | refine blk_drew ?_ | refine blk_alloc ?_ _)); refine blk_put (cs := #[.slice Ao14 t502.length co14, .slice none 0 0]) ?_ 1 _ rfl; (with_reducible repeat (first | refine blk_drewN ?_ _ | refine blk_drew ?_ | refine blk_alloc ?_ _)); refine blk_put (cs := #[.slice none 0 0, .slice none 0 0]) ?_ 0 _ rfl; (with_reducible repeat (first | refine blk_drewN ?_ _ | refine blk_drew ?_ | refine blk_alloc ?_ _)); exact BK508.out) hb); have n5_ := Aside0.mk (below_step (fB1 GE508) hb); clear HO501; clear HO504; clear HO507; clear BK508; clear HB; have HO501 := n0_; have HO504 := n1_; have HO507 := n2_; have HO511 := n3_; have BK508 := n4_; have HB := n5_; clear n0_ n1_ n2_ n3_ n4_ n5_; (try clear hb); (try clear hb2); (try clear hk); (try clear hi); (try clear ho0); obtain ⟨Ao18, co18, eo18⟩ := Kd.R_slice HO511.out; subst eo18))
  (try simp only [Act.put, List.setIfInBounds_toArray, List.set_cons_zero, List.set_cons_succ])
  go_cut [7] (fun v7 wc => ∃ (kq : Nat) (x7_7 : List (S34)), Aside0 (conciergelaw20_OrderTotal.j0 kq true x7_7 t502 t505 = some r) ∧ Aside0 (kq ≤ k) ∧ Aside0 (Kd.R k34 34 wc w.heap.size (fun _ => True) v7 x7_7) ∧ Aside0 (Kd.R k52 52 wc w.heap.size (fun _ => True) (.slice Ao14 t502.length co14) t502) ∧ Aside0 (Kd.R Kd.string 9 wc w.heap.size (fun _ => True) (.slice Ao16 t505.length co16) t505) ∧ Aside0 (wc.heap[gb508]? = some (.cells #[(.slice Ao14 t502.length co14), (.slice Ao16 t505.length co16)] 28 (0, 0))) ∧ Aside0 (Below w.heap.size w wc))
  case first => as_aux_lemma =>
   have H := HC8.out
   clear HC8
   by_cases c19 : (t509.length : Int) > 8
   ·rw [if_pos c19] at H
    have c19b0 : decide (8 < (t509.length : Int)) = true := decide_eq_true c19
    have c19b1 : decide (8 < t509.length) = true := decide_eq_true (by omega)
    clear c19
    (first | rw [c19b0] | (simp only [i64_w, i32_w]; rw [c19b0]) | skip)
    by_cases c20 : 8 ≤ (t509.length : Int)
    ·rw [if_pos c20] at H
     have c20b0 := eq_true c20
     have c20b1 : decide (8 ≤ (t509.length : Int)) = true := decide_eq_true c20
     clear c20
     obtain ⟨y512, hy512⟩ : ∃ y_ : List (S34), y_ = (t509.take (8 : Int).toNat) := ⟨_, rfl⟩
     replace H : (conciergelaw20_OrderTotal.j0 k true y512 t502 t505) = some r := by first | (rw [hy512]; with_reducible exact H) | (have H2_ := (Option.bind_some _ _).symm.trans H; rw [hy512]; with_reducible exact H2_) | (have H2_ := (Option.bind_some _ _).symm.trans H; with_reducible exact H2_) | with_reducible exact H | (rw [hy512]; exact H) | exact H
     have Ny512 := Aside0.mk hy512
     clear hy512
     have H' := Aside0.mk H
     clear H
     have q21 : (8 : Int) ≤ ((t509.length : Int) : Int) := of_decide_eq_true (by first | (with_reducible assumption) | assumption)
     obtain ⟨i021, hi021, _, hsz21, _⟩ := info_parts info34
     have hcut21 := cut_to (P := Try.prog) 23 34 .i64 Try.underlying23 hi021 Ao18 t509.length co18 8 (by omega) q21 (Kd.R_reads' HO511.out).2.1
     have hr21 := Kd.R_take (m := (8 : Int).toNat) HO511.out (by omega)
     have hy21 : y512.length = (8 : Int).toNat := (by rw [Ny512.out, List.length_take]; omega)
     rw [← Ny512.out] at hr21
     rw [← hy21] at hr21 hcut21
     clear hy21 hi021 hsz21 HO511
     have HO514 := Aside0.mk hr21
     clear hr21
     replace q21 := eq_true q21
     go_wp2
     go_meet
     case rel => exact ⟨_, (y512), H', ⟨by first | omega | exact Nat.le_refl _⟩, ⟨(fA0 HO514)⟩, ⟨(fA0 HO504)⟩, ⟨(fA0 HO507)⟩, ⟨(fA1 BK508)⟩, ⟨(fB1 GE508)⟩⟩
    ·rw [if_neg c20] at H
     exact absurd H (by simp)
   ·rw [if_neg c19] at H
    have c19b0 : decide (8 < (t509.length : Int)) = false := decide_eq_false c19
    have c19b1 : decide (8 < t509.length) = false := decide_eq_false (by omega)
    clear c19
    (first | rw [c19b0] | (simp only [i64_w, i32_w]; rw [c19b0]) | skip)
    have H' := Aside0.mk H
    clear H
    go_wp2
    go_meet
    case rel => exact ⟨_, (t509), H', ⟨by first | omega | exact Nat.le_refl _⟩, ⟨(fA0 HO511)⟩, ⟨(fA0 HO504)⟩, ⟨(fA0 HO507)⟩, ⟨(fA1 BK508)⟩, ⟨(fB1 GE508)⟩⟩
  case rest => as_aux_lemma =>
   clear HC8
   try clear c1
   try clear c2
   try clear p2
   try clear q2
   try clear c4
   try clear c6
   try clear c7
   try clear c8
   try clear c9
   try clear c10
   try clear c19
   try clear c19b0
   try clear c19b1
   try clear c20
   try clear c20b0
   try clear c20b1
   try clear q21
   try clear hcz15_0
   try clear hcz15_1
   try clear hfz15_0
   try clear hfz15_1
   try clear q21
   obtain ⟨kq, x7_7, HA, HJ7, HO_7, HO_509000, HO_509001, BK508, HB⟩ := hcut
   cases kq with
   | zero => exact absurd HA.out (by simp [conciergelaw20_OrderTotal.j0])
   | succ kj7 =>
    have H := HA.out
    clear HA
    simp only [conciergelaw20_OrderTotal.j0] at H
    have H' := Aside0.mk H
    clear H
    go_wp2
    go_loopg [8] kj7 (fun kq v8 w' => ∃ (x8_2 : Int), v8 = .int .i64 x8_2 ∧ Aside0 (conciergelaw20_OrderTotal.l0 kq true x7_7 x8_2 t502 t505 = some r) ∧ Aside0 (kq ≤ kj7) ∧ Aside0 (Kd.R k34 34 w' w.heap.size (fun _ => True) u7 x7_7) ∧ Aside0 (Kd.R k52 52 w' w.heap.size (fun _ => True) (.slice Ao14 t502.length co14) t502) ∧ Aside0 (Kd.R Kd.string 9 w' w.heap.size (fun _ => True) (.slice Ao16 t505.length co16) t505) ∧ Aside0 (w'.heap[gb508]? = some (.cells #[(.slice Ao14 t502.length co14), (.slice Ao16 t505.length co16)] 28 (0, 0))) ∧ Aside0 (Below w.heap.size w w'))
    case atStart => exact ⟨(0), s1_, H', ⟨Nat.le_refl _⟩, ⟨(fA0 HO_7)⟩, ⟨(fA0 HO_509000)⟩, ⟨(fA0 HO_509001)⟩, ⟨(fA1 BK508)⟩, ⟨(fB1 GE508)⟩⟩
    case round => as_aux_lemma =>
     clear H'
     try clear c1
     try clear c2
     try clear p2
     try clear q2
     try clear c4
     try clear c6
     try clear c7
     try clear c8
     try clear c9
     try clear c10
     try clear c19
     try clear c19b0
     try clear c19b1
     try clear c20
     try clear c20b0
     try clear c20b1
     try clear q21
     try clear hcz15_0
     try clear hcz15_1
     try clear hfz15_0
     try clear hfz15_1
     try clear p2
     try clear q2
     try clear q21
     obtain ⟨x8_2, rfl, HA, HK2, HO_7, HO_509000, HO_509001, BK508, HB⟩ := hrel
     cases gk with
     | zero => exact absurd HA.out (by simp [conciergelaw20_OrderTotal.l0])
     | succ k2 =>
      have H := HA.out
      clear HA
      simp only [conciergelaw20_OrderTotal.l0] at H
      by_cases c22 : x8_2 < (x7_7.length : Int)
      ·rw [if_pos c22] at H
       have c22b0 : decide (x8_2 < (x7_7.length : Int)) = true := decide_eq_true c22
       clear c22
       have H' := Aside0.mk H
       clear H
       obtain ⟨Ao23, co23, eo23⟩ := Kd.R_slice HO_7.out
       subst eo23
       go_wp2
       go_loopg [9] k2 (fun kq v9 w' => ∃ (x9_3 : Int), v9 = .int .i64 x9_3 ∧ Aside0 (conciergelaw20_OrderTotal.l1 kq true x7_7 x8_2 x9_3 t502 t505 = some r) ∧ Aside0 (kq ≤ k2) ∧ Aside0 (Kd.R k34 34 w' w.heap.size (fun _ => True) (.slice Ao23 x7_7.length co23) x7_7) ∧ Aside0 (Kd.R k52 52 w' w.heap.size (fun _ => True) (.slice Ao14 t502.length co14) t502) ∧ Aside0 (Kd.R Kd.string 9 w' w.heap.size (fun _ => True) (.slice Ao16 t505.length co16) t505) ∧ Aside0 (w'.heap[gb508]? = some (.cells #[(.slice Ao14 t502.length co14), (.slice Ao16 t505.length co16)] 28 (0, 0))) ∧ Aside0 (Below w.heap.size w w'))
       case atStart => exact ⟨(0), s1_, H', ⟨Nat.le_refl _⟩, ⟨(fA0 HO_7)⟩, ⟨(fA0 HO_509000)⟩, ⟨(fA0 HO_509001)⟩, ⟨(fA1 BK508)⟩, ⟨(fB1 GE508)⟩⟩
       case round => as_aux_lemma =>
        clear H'
        try clear c1
        try clear c2
        try clear p2
        try clear q2
        try clear c4
        try clear c6
        try clear c7
        try clear c8
        try clear c9
        try clear c10
        try clear c19
        try clear c19b0
        try clear c19b1
        try clear c20
        try clear c20b0
        try clear c20b1
        try clear q21
        try clear c22
        try clear c22b0
        try clear hcz15_0
        try clear hcz15_1
        try clear hfz15_0
        try clear hfz15_1
        try clear p2
        try clear q2
        try clear q21
        obtain ⟨x9_3, rfl, HA, HK3, HO_7, HO_509000, HO_509001, BK508, HB⟩ := hrel
        cases gk with
        | zero => exact absurd HA.out (by simp [conciergelaw20_OrderTotal.l1])
        | succ k3 =>
         have H := HA.out
         clear HA
         simp only [conciergelaw20_OrderTotal.l1] at H
         by_cases c24 : x9_3 < (x7_7.length : Int)
         ·rw [if_pos c24] at H
          have c24b0 : decide (x9_3 < (x7_7.length : Int)) = true := decide_eq_true c24
          clear c24
          have HC25 := Aside0.mk H
          clear H
          go_upto_region 14 with (fail)
          go_cut [61] (fun v61 wc => ∃ (kq : Nat) (x61_24 : Bool), v61 = .bool x61_24 ∧ Aside0 (conciergelaw20_OrderTotal.j3 kq true x7_7 x8_2 x9_3 x61_24 t502 t505 = some r) ∧ Aside0 (kq ≤ k3) ∧ Aside0 (Kd.R k34 34 wc w.heap.size (fun _ => True) (.slice Ao23 x7_7.length co23) x7_7) ∧ Aside0 (Kd.R k52 52 wc w.heap.size (fun _ => True) (.slice Ao14 t502.length co14) t502) ∧ Aside0 (Kd.R Kd.string 9 wc w.heap.size (fun _ => True) (.slice Ao16 t505.length co16) t505) ∧ Aside0 (wc.heap[gb508]? = some (.cells #[(.slice Ao14 t502.length co14), (.slice Ao16 t505.length co16)] 28 (0, 0))) ∧ Aside0 (Below w.heap.size w wc))
          case first => as_aux_lemma =>
           have H := HC25.out
           clear HC25
           by_cases c26 : 0 ≤ x8_2
           ·rw [if_pos c26] at H
            have c26b0 : decide (0 ≤ x8_2) = true := decide_eq_true c26
            clear c26
            (first | rw [c26b0] | (simp only [i64_w, i32_w]; rw [c26b0]) | skip)
            by_cases c27 : x8_2 < (x7_7.length : Int)
            ·rw [if_pos c27] at H
             have c27b0 : decide (x8_2 < (x7_7.length : Int)) = true := decide_eq_true c27
             clear c27
             by_cases c28 : 0 ≤ x9_3
             ·rw [if_pos c28] at H
              have c28b0 : decide (0 ≤ x9_3) = true := decide_eq_true c28
              clear c28
              replace H := Option.bind_eq_some_iff.mp H
              obtain ⟨t517, A290, H⟩ := H
              have A29 := Aside0.mk A290
              clear A290
              by_cases c30 : t517 = true
              ·subst c30
               rw [if_pos rfl] at H
               replace H := Option.bind_eq_some_iff.mp H
               obtain ⟨t520, A310, H⟩ := H
               have A31 := Aside0.mk A310
               clear A310
               have H' := Aside0.mk H
               clear H
               try go_wp2
               have n0_ := Aside0.mk (Kd.R_drew HO_7.out)
               have n1_ := Aside0.mk (Kd.R_drew HO_509000.out)
               have n2_ := Aside0.mk (Kd.R_drew HO_509001.out)
               have n3_ := Aside0.mk (blk_drew BK508.out)
               have n4_ := Aside0.mk (below_drew1 HB.out)
               clear HO_7
               clear HO_509000
               clear HO_509001
               clear BK508
               clear HB
               have HO_7 := n0_
               have HO_509000 := n1_
               have HO_509001 := n2_
               have BK508 := n3_
               have HB := n4_
               clear n0_ n1_ n2_ n3_ n4_
               have p515 : 0 ≤ (x8_2 : Int) := of_decide_eq_true (by first | (with_reducible assumption) | assumption)
               have q515 : x8_2 < (x7_7.length : Int) := of_decide_eq_true (by first | (with_reducible assumption) | assumption)
               obtain ⟨ad515, e515, hx515_0, hx515_1⟩ := at_T34 (Kd.R_reads' HO_7.out).2.2 x8_2 p515 q515
               cases e515
               replace p515 := eq_true p515
               replace q515 := eq_true q515
               have p516 : 0 ≤ (x9_3 : Int) := of_decide_eq_true (by first | (with_reducible assumption) | assumption)
               have q516 : x9_3 < (x7_7.length : Int) := of_decide_eq_true (by first | (with_reducible assumption) | assumption)
               obtain ⟨ad516, e516, hx516_0, hx516_1⟩ := at_T34 (Kd.R_reads' HO_7.out).2.2 x9_3 p516 q516
               obtain rfl : ad515 = ad516 := (by injection e516)
               replace p516 := eq_true p516
               replace q516 := eq_true q516
               have p518 : 0 ≤ (x9_3 : Int) := of_decide_eq_true (by first | (with_reducible assumption) | assumption)
               have q518 : x9_3 < (x7_7.length : Int) := of_decide_eq_true (by first | (with_reducible assumption) | assumption)
               obtain ⟨ad518, e518, hx518_0, hx518_1⟩ := at_T34 (Kd.R_reads' HO_7.out).2.2 x9_3 p518 q518
               obtain rfl : ad515 = ad518 := (by injection e518)
               replace p518 := eq_true p518
               replace q518 := eq_true q518
               have p519 : 0 ≤ (x8_2 : Int) := of_decide_eq_true (by first | (with_reducible assumption) | assumption)
               have q519 : x8_2 < (x7_7.length : Int) := of_decide_eq_true (by first | (with_reducible assumption) | assumption)
               obtain ⟨ad519, e519, hx519_0, hx519_1⟩ := at_T34 (Kd.R_reads' HO_7.out).2.2 x8_2 p519 q519
               obtain rfl : ad515 = ad519 := (by injection e519)
               replace p519 := eq_true p519
               replace q519 := eq_true q519
               refine start_ (n := 22) (S := fun w' => w'.cell? ⟨gb508, 0, none⟩ = some (.slice Ao14 t502.length co14) ∧ w'.cell? ⟨gb508, 1, none⟩ = some (.slice Ao16 t505.length co16) ∧ w'.cell? (ad515.add ((x8_2).toNat * 2)) = some (.string ((rd_T34 x7_7 x8_2).f0)) ∧ w'.cell? ⟨(ad515.add ((x8_2).toNat * 2)).block, (ad515.add ((x8_2).toNat * 2)).off + 1, none⟩ = some (.string ((rd_T34 x7_7 x8_2).f1)) ∧ w'.cell? (ad515.add ((x9_3).toNat * 2)) = some (.string ((rd_T34 x7_7 x9_3).f0)) ∧ w'.cell? ⟨(ad515.add ((x9_3).toNat * 2)).block, (ad515.add ((x9_3).toNat * 2)).off + 1, none⟩ = some (.string ((rd_T34 x7_7 x9_3).f1)) ∧ w'.cell? (ad515.add ((x9_3).toNat * 2)) = some (.string ((rd_T34 x7_7 x9_3).f0)) ∧ w'.cell? ⟨(ad515.add ((x9_3).toNat * 2)).block, (ad515.add ((x9_3).toNat * 2)).off + 1, none⟩ = some (.string ((rd_T34 x7_7 x9_3).f1)) ∧ w'.cell? (ad515.add ((x8_2).toNat * 2)) = some (.string ((rd_T34 x7_7 x8_2).f0)) ∧ w'.cell? ⟨(ad515.add ((x8_2).toNat * 2)).block, (ad515.add ((x8_2).toNat * 2)).off + 1, none⟩ = some (.string ((rd_T34 x7_7 x8_2).f1))) (ds := []) #[false, false, false, false, false, false, false, false, false, false, false, false, false, false, false, false, false, false, false, false, false, false] (by kernel_rfl) rfl rfl ⟨(blk_cell BK508.out 0).trans rfl, (blk_cell BK508.out 1).trans rfl, hx515_0, hx515_1, hx516_0, hx516_1, hx518_0, hx518_1, hx519_0, hx519_1⟩ (fun hHeld => ?_); refine with_tabW conciergelaw20_OrderTotal.tab14 conciergelaw20_OrderTotal.bits14 (fun HT_ HW_ => ?_)
               generalize wr.drew = w32 at HO_7 HO_509000 HO_509001 BK508 HB hx515_0 hx515_1 hx516_0 hx516_1 hx518_0 hx518_1 hx519_0 hx519_1 hHeld ⊢
               refine pz_ 1 41 (h := ?_)
               refine pz_ 2 42 (h := ?_)
               refine pz_ 3 43 (h := ?_)
               refine pz_ 5 45 (h := ?_)
               refine pz_ 6 46 (h := ?_)
               refine pz_ 7 47 (h := ?_)
               refine tz_ 0 40 (h := ?_)
               refine tz_ 4 44 (h := ?_)
               refine tz_ 8 48 (h := ?_)
               refine one_ (i := 9) (N := some 49) #[true, true, true, true, true, true, true, true, true, true, false, false, false, false, false, false, false, false, false, false, false, false] rfl rfl (one_of HT_.out (by kernel_rfl)) (by decide) (fun K hK => ?_)
               refine goes_ Try.func20 (by kernel_rfl) rfl #[.agg #[.slice Ao14 t502.length co14, .slice Ao16 t505.length co16], .agg #[.string ((rd_T34 x7_7 x8_2).f0), .string ((rd_T34 x7_7 x8_2).f1)], .agg #[.string ((rd_T34 x7_7 x9_3).f0), .string ((rd_T34 x7_7 x9_3).f1)]] (by rfl) rfl rfl s2_ ?_
               with_reducible refine (order_Less.calls k3 _ _ t502 _ _ t505 ((rd_T34 x7_7 x8_2).f0) ((rd_T34 x7_7 x8_2).f1) ((rd_T34 x7_7 x9_3).f0) ((rd_T34 x7_7 x9_3).f1) true _ ?side1 ?side2 ?side3 ?side4 A29.out).mono ?_
               (case side1 => repeat (first | exact (Kd.R_reads' HO_509000.out).2.2 | (with_reducible refine Kd.C_alloc ?_ _) | (with_reducible refine Kd.C_drewN ?_ _) | (with_reducible refine Kd.C_drew ?_)))
               (case side2 => exact (Kd.R_reads' HO_509000.out).2.1)
               (case side3 => repeat (first | exact (Kd.R_reads' HO_509001.out).2.2 | (with_reducible refine Kd.C_alloc ?_ _) | (with_reducible refine Kd.C_drewN ?_ _) | (with_reducible refine Kd.C_drew ?_)))
               (case side4 => exact (Kd.R_reads' HO_509001.out).2.1)
               rintro e w33 ⟨rfl, hb⟩
               have HS2_ := (hb.cell (World.block_lt_of_cell? _ _ (hHeld.2.2.1))).trans (hHeld.2.2.1)
               have HS3_ := (hb.cell (World.block_lt_of_cell? _ _ (hHeld.2.2.2.1))).trans (hHeld.2.2.2.1)
               have HS4_ := (hb.cell (World.block_lt_of_cell? _ _ (hHeld.2.2.2.2.1))).trans (hHeld.2.2.2.2.1)
               have HS5_ := (hb.cell (World.block_lt_of_cell? _ _ (hHeld.2.2.2.2.2.1))).trans (hHeld.2.2.2.2.2.1)
               have HS6_ := (hb.cell (World.block_lt_of_cell? _ _ (hHeld.2.2.2.2.2.2.1))).trans (hHeld.2.2.2.2.2.2.1)
               have HS7_ := (hb.cell (World.block_lt_of_cell? _ _ (hHeld.2.2.2.2.2.2.2.1))).trans (hHeld.2.2.2.2.2.2.2.1)
               have HS8_ := (hb.cell (World.block_lt_of_cell? _ _ (hHeld.2.2.2.2.2.2.2.2.1))).trans (hHeld.2.2.2.2.2.2.2.2.1)
               have HS9_ := (hb.cell (World.block_lt_of_cell? _ _ (hHeld.2.2.2.2.2.2.2.2.2))).trans (hHeld.2.2.2.2.2.2.2.2.2)
               refine ⟨_, rfl, ?_⟩
               have n0_ := Aside0.mk (Kd.R_below (fA0 HO_7) hb)
               have n1_ := Aside0.mk (Kd.R_below (fA0 HO_509000) hb)
               have n2_ := Aside0.mk (Kd.R_below (fA0 HO_509001) hb)
               have n3_ := Aside0.mk (blk_below (g := gb508) (o := .cells #[.slice Ao14 t502.length co14, .slice Ao16 t505.length co16] 28 (0, 0)) (fA1 BK508) hb)
               have n4_ := Aside0.mk (below_step (fB1 GE508) hb)
               clear HO_7
               clear HO_509000
               clear HO_509001
               clear BK508
               clear HB
               have HO_7 := n0_
               have HO_509000 := n1_
               have HO_509001 := n2_
               have BK508 := n3_
               have HB := n4_
               clear n0_ n1_ n2_ n3_ n4_
               (try clear hb)
               (try clear hb2)
               (try clear hk)
               (try clear hi)
               refine hK.out _ _ ⟨(blk_cell BK508.out 0).trans rfl, (blk_cell BK508.out 1).trans rfl, HS2_, HS3_, HS4_, HS5_, HS6_, HS7_, HS8_, HS9_⟩ (fun hHeld => ?_)
               clear hK K
               refine norm_ (a' := ?_) ?_ ?_
               rotate_left
               ·show Act.put _ (some 49) _ = _
                simp only [Act.put, List.setIfInBounds_toArray, List.set_cons_zero, List.set_cons_succ, i64_w, i32_w]
                rfl
               refine pz_ 10 50 (h := ?_)
               refine pz_ 12 52 (h := ?_)
               refine pz_ 13 53 (h := ?_)
               refine pz_ 14 54 (h := ?_)
               refine pz_ 16 56 (h := ?_)
               refine pz_ 17 57 (h := ?_)
               refine pz_ 18 58 (h := ?_)
               refine tz_ 11 51 (h := ?_)
               refine tz_ 15 55 (h := ?_)
               refine tz_ 19 59 (h := ?_)
               refine one_ (i := 20) (N := some 60) #[true, true, true, true, true, true, true, true, true, true, true, true, true, true, true, true, true, true, true, true, true, false] rfl rfl (one_of HT_.out (by kernel_rfl)) (by decide) (fun K hK => ?_)
               refine goes_ Try.func20 (by kernel_rfl) rfl #[.agg #[.slice Ao14 t502.length co14, .slice Ao16 t505.length co16], .agg #[.string ((rd_T34 x7_7 x9_3).f0), .string ((rd_T34 x7_7 x9_3).f1)], .agg #[.string ((rd_T34 x7_7 x8_2).f0), .string ((rd_T34 x7_7 x8_2).f1)]] (by rfl) rfl rfl s2_ ?_
               with_reducible refine (order_Less.calls k3 _ _ t502 _ _ t505 ((rd_T34 x7_7 x9_3).f0) ((rd_T34 x7_7 x9_3).f1) ((rd_T34 x7_7 x8_2).f0) ((rd_T34 x7_7 x8_2).f1) t520 _ ?side1 ?side2 ?side3 ?side4 A31.out).mono ?_
               (case side1 => repeat (first | exact (Kd.R_reads' HO_509000.out).2.2 | (with_reducible refine Kd.C_alloc ?_ _) | (with_reducible refine Kd.C_drewN ?_ _) | (with_reducible refine Kd.C_drew ?_)))
               (case side2 => exact (Kd.R_reads' HO_509000.out).2.1)
               (case side3 => repeat (first | exact (Kd.R_reads' HO_509001.out).2.2 | (with_reducible refine Kd.C_alloc ?_ _) | (with_reducible refine Kd.C_drewN ?_ _) | (with_reducible refine Kd.C_drew ?_)))
               (case side4 => exact (Kd.R_reads' HO_509001.out).2.1)
               rintro e w34 ⟨rfl, hb⟩
               have HS2_ := (hb.cell (World.block_lt_of_cell? _ _ (hHeld.2.2.1))).trans (hHeld.2.2.1)
               have HS3_ := (hb.cell (World.block_lt_of_cell? _ _ (hHeld.2.2.2.1))).trans (hHeld.2.2.2.1)
               have HS4_ := (hb.cell (World.block_lt_of_cell? _ _ (hHeld.2.2.2.2.1))).trans (hHeld.2.2.2.2.1)
               have HS5_ := (hb.cell (World.block_lt_of_cell? _ _ (hHeld.2.2.2.2.2.1))).trans (hHeld.2.2.2.2.2.1)
               have HS6_ := (hb.cell (World.block_lt_of_cell? _ _ (hHeld.2.2.2.2.2.2.1))).trans (hHeld.2.2.2.2.2.2.1)
               have HS7_ := (hb.cell (World.block_lt_of_cell? _ _ (hHeld.2.2.2.2.2.2.2.1))).trans (hHeld.2.2.2.2.2.2.2.1)
               have HS8_ := (hb.cell (World.block_lt_of_cell? _ _ (hHeld.2.2.2.2.2.2.2.2.1))).trans (hHeld.2.2.2.2.2.2.2.2.1)
               have HS9_ := (hb.cell (World.block_lt_of_cell? _ _ (hHeld.2.2.2.2.2.2.2.2.2))).trans (hHeld.2.2.2.2.2.2.2.2.2)
               refine ⟨_, rfl, ?_⟩
               have n0_ := Aside0.mk (Kd.R_below (fA0 HO_7) hb)
               have n1_ := Aside0.mk (Kd.R_below (fA0 HO_509000) hb)
               have n2_ := Aside0.mk (Kd.R_below (fA0 HO_509001) hb)
               have n3_ := Aside0.mk (blk_below (g := gb508) (o := .cells #[.slice Ao14 t502.length co14, .slice Ao16 t505.length co16] 28 (0, 0)) (fA1 BK508) hb)
               have n4_ := Aside0.mk (below_step (fB1 GE508) hb)
               clear HO_7
               clear HO_509000
               clear HO_509001
               clear BK508
               clear HB
               have HO_7 := n0_
               have HO_509000 := n1_
               have HO_509001 := n2_
               have BK508 := n3_
               have HB := n4_
               clear n0_ n1_ n2_ n3_ n4_
               (try clear hb)
               (try clear hb2)
               (try clear hk)
               (try clear hi)
               refine hK.out _ _ ⟨(blk_cell BK508.out 0).trans rfl, (blk_cell BK508.out 1).trans rfl, HS2_, HS3_, HS4_, HS5_, HS6_, HS7_, HS8_, HS9_⟩ (fun hHeld => ?_)
               clear hK K
               refine norm_ (a' := ?_) ?_ ?_
               rotate_left
               ·show Act.put _ (some 60) _ = _
                simp only [Act.put, List.setIfInBounds_toArray, List.set_cons_zero, List.set_cons_succ, i64_w, i32_w]
                rfl
               refine pz_ 21 61 (h := ?_)
               refine done_ (done_of HT_.out (by kernel_rfl)) ?_
               try go_wp2
               go_meet
               case rel => exact ⟨_, (t520), s1_, H', ⟨by have := HJ7.out; have := HK2.out; have := HK3.out; first | omega | exact Nat.le_refl _⟩, ⟨(fA0 HO_7)⟩, ⟨(fA0 HO_509000)⟩, ⟨(fA0 HO_509001)⟩, ⟨(fA1 BK508)⟩, ⟨(fB1 GE508)⟩⟩
              ·replace c30 := Bool.eq_false_iff.mpr c30
               subst c30
               rw [if_neg (show ¬ (false = true) by decide)] at H
               have H' := Aside0.mk H
               clear H
               try go_wp2
               have n0_ := Aside0.mk (Kd.R_drew HO_7.out)
               have n1_ := Aside0.mk (Kd.R_drew HO_509000.out)
               have n2_ := Aside0.mk (Kd.R_drew HO_509001.out)
               have n3_ := Aside0.mk (blk_drew BK508.out)
               have n4_ := Aside0.mk (below_drew1 HB.out)
               clear HO_7
               clear HO_509000
               clear HO_509001
               clear BK508
               clear HB
               have HO_7 := n0_
               have HO_509000 := n1_
               have HO_509001 := n2_
               have BK508 := n3_
               have HB := n4_
               clear n0_ n1_ n2_ n3_ n4_
               have p515 : 0 ≤ (x8_2 : Int) := of_decide_eq_true (by first | (with_reducible assumption) | assumption)
               have q515 : x8_2 < (x7_7.length : Int) := of_decide_eq_true (by first | (with_reducible assumption) | assumption)
               obtain ⟨ad515, e515, hx515_0, hx515_1⟩ := at_T34 (Kd.R_reads' HO_7.out).2.2 x8_2 p515 q515
               cases e515
               replace p515 := eq_true p515
               replace q515 := eq_true q515
               have p516 : 0 ≤ (x9_3 : Int) := of_decide_eq_true (by first | (with_reducible assumption) | assumption)
               have q516 : x9_3 < (x7_7.length : Int) := of_decide_eq_true (by first | (with_reducible assumption) | assumption)
               obtain ⟨ad516, e516, hx516_0, hx516_1⟩ := at_T34 (Kd.R_reads' HO_7.out).2.2 x9_3 p516 q516
               obtain rfl : ad515 = ad516 := (by injection e516)
               replace p516 := eq_true p516
               replace q516 := eq_true q516
               refine start_ (n := 22) (S := fun w' => w'.cell? ⟨gb508, 0, none⟩ = some (.slice Ao14 t502.length co14) ∧ w'.cell? ⟨gb508, 1, none⟩ = some (.slice Ao16 t505.length co16) ∧ w'.cell? (ad515.add ((x8_2).toNat * 2)) = some (.string ((rd_T34 x7_7 x8_2).f0)) ∧ w'.cell? ⟨(ad515.add ((x8_2).toNat * 2)).block, (ad515.add ((x8_2).toNat * 2)).off + 1, none⟩ = some (.string ((rd_T34 x7_7 x8_2).f1)) ∧ w'.cell? (ad515.add ((x9_3).toNat * 2)) = some (.string ((rd_T34 x7_7 x9_3).f0)) ∧ w'.cell? ⟨(ad515.add ((x9_3).toNat * 2)).block, (ad515.add ((x9_3).toNat * 2)).off + 1, none⟩ = some (.string ((rd_T34 x7_7 x9_3).f1))) (ds := []) #[false, false, false, false, false, false, false, false, false, false, false, false, false, false, false, false, false, false, false, false, false, false] (by kernel_rfl) rfl rfl ⟨(blk_cell BK508.out 0).trans rfl, (blk_cell BK508.out 1).trans rfl, hx515_0, hx515_1, hx516_0, hx516_1⟩ (fun hHeld => ?_); refine with_tabW conciergelaw20_OrderTotal.tab14 conciergelaw20_OrderTotal.bits14 (fun HT_ HW_ => ?_)
               generalize wr.drew = w35 at HO_7 HO_509000 HO_509001 BK508 HB hx515_0 hx515_1 hx516_0 hx516_1 hHeld ⊢
               refine pz_ 1 41 (h := ?_)
               refine pz_ 2 42 (h := ?_)
               refine pz_ 3 43 (h := ?_)
               refine pz_ 5 45 (h := ?_)
               refine pz_ 6 46 (h := ?_)
               refine pz_ 7 47 (h := ?_)
               refine tz_ 0 40 (h := ?_)
               refine tz_ 4 44 (h := ?_)
               refine tz_ 8 48 (h := ?_)
               refine one_ (i := 9) (N := some 49) #[true, true, true, true, true, true, true, true, true, true, false, false, false, false, false, false, false, false, false, false, false, false] rfl rfl (one_of HT_.out (by kernel_rfl)) (by decide) (fun K hK => ?_)
               refine goes_ Try.func20 (by kernel_rfl) rfl #[.agg #[.slice Ao14 t502.length co14, .slice Ao16 t505.length co16], .agg #[.string ((rd_T34 x7_7 x8_2).f0), .string ((rd_T34 x7_7 x8_2).f1)], .agg #[.string ((rd_T34 x7_7 x9_3).f0), .string ((rd_T34 x7_7 x9_3).f1)]] (by rfl) rfl rfl s2_ ?_
               with_reducible refine (order_Less.calls k3 _ _ t502 _ _ t505 ((rd_T34 x7_7 x8_2).f0) ((rd_T34 x7_7 x8_2).f1) ((rd_T34 x7_7 x9_3).f0) ((rd_T34 x7_7 x9_3).f1) false _ ?side1 ?side2 ?side3 ?side4 A29.out).mono ?_
               (case side1 => repeat (first | exact (Kd.R_reads' HO_509000.out).2.2 | (with_reducible refine Kd.C_alloc ?_ _) | (with_reducible refine Kd.C_drewN ?_ _) | (with_reducible refine Kd.C_drew ?_)))
               (case side2 => exact (Kd.R_reads' HO_509000.out).2.1)
               (case side3 => repeat (first | exact (Kd.R_reads' HO_509001.out).2.2 | (with_reducible refine Kd.C_alloc ?_ _) | (with_reducible refine Kd.C_drewN ?_ _) | (with_reducible refine Kd.C_drew ?_)))
               (case side4 => exact (Kd.R_reads' HO_509001.out).2.1)
               rintro e w36 ⟨rfl, hb⟩
               have HS2_ := (hb.cell (World.block_lt_of_cell? _ _ (hHeld.2.2.1))).trans (hHeld.2.2.1)
               have HS3_ := (hb.cell (World.block_lt_of_cell? _ _ (hHeld.2.2.2.1))).trans (hHeld.2.2.2.1)
               have HS4_ := (hb.cell (World.block_lt_of_cell? _ _ (hHeld.2.2.2.2.1))).trans (hHeld.2.2.2.2.1)
               have HS5_ := (hb.cell (World.block_lt_of_cell? _ _ (hHeld.2.2.2.2.2))).trans (hHeld.2.2.2.2.2)
               refine ⟨_, rfl, ?_⟩
               have n0_ := Aside0.mk (Kd.R_below (fA0 HO_7) hb)
               have n1_ := Aside0.mk (Kd.R_below (fA0 HO_509000) hb)
               have n2_ := Aside0.mk (Kd.R_below (fA0 HO_509001) hb)
               have n3_ := Aside0.mk (blk_below (g := gb508) (o := .cells #[.slice Ao14 t502.length co14, .slice Ao16 t505.length co16] 28 (0, 0)) (fA1 BK508) hb)
               have n4_ := Aside0.mk (below_step (fB1 GE508) hb)
               clear HO_7
               clear HO_509000
               clear HO_509001
               clear BK508
               clear HB
               have HO_7 := n0_
               have HO_509000 := n1_
               have HO_509001 := n2_
               have BK508 := n3_
               have HB := n4_
               clear n0_ n1_ n2_ n3_ n4_
               (try clear hb)
               (try clear hb2)
               (try clear hk)
               (try clear hi)
               refine hK.out _ _ ⟨(blk_cell BK508.out 0).trans rfl, (blk_cell BK508.out 1).trans rfl, HS2_, HS3_, HS4_, HS5_⟩ (fun hHeld => ?_)
               clear hK K
               refine norm_ (a' := ?_) ?_ ?_
               rotate_left
               ·show Act.put _ (some 49) _ = _
                simp only [Act.put, List.setIfInBounds_toArray, List.set_cons_zero, List.set_cons_succ, i64_w, i32_w]
                rfl
               refine pz_ 10 50 (h := ?_)
               refine py_ 11 51 (h := ?_)
               refine py_ 12 52 (h := ?_)
               refine py_ 13 53 (h := ?_)
               refine py_ 14 54 (h := ?_)
               refine py_ 15 55 (h := ?_)
               refine py_ 16 56 (h := ?_)
               refine py_ 17 57 (h := ?_)
               refine py_ 18 58 (h := ?_)
               refine py_ 19 59 (h := ?_)
               refine py_ 20 60 (h := ?_)
               refine pz_ 21 61 (h := ?_)
               refine done_ (done_of HT_.out (by kernel_rfl)) ?_
               try go_wp2
               go_meet
               case rel => exact ⟨_, (false), s1_, H', ⟨by have := HJ7.out; have := HK2.out; have := HK3.out; first | omega | exact Nat.le_refl _⟩, ⟨(fA0 HO_7)⟩, ⟨(fA0 HO_509000)⟩, ⟨(fA0 HO_509001)⟩, ⟨(fA1 BK508)⟩, ⟨(fB1 GE508)⟩⟩
             ·rw [if_neg c28] at H
              exact absurd H (by simp)
            ·rw [if_neg c27] at H
             exact absurd H (by simp)
           ·rw [if_neg c26] at H
            exact absurd H (by simp)
          case rest => as_aux_lemma =>
           clear HC25
           try clear c1
           try clear c2
           try clear p2
           try clear q2
           try clear c3
           try clear c4
           try clear p5
           try clear q5
           try clear hx5
           try clear c6
           try clear c7
           try clear c8
           try clear c9
           try clear c10
           try clear c19
           try clear c19b0
           try clear c19b1
           try clear c20
           try clear c20b0
           try clear c20b1
           try clear q21
           try clear c22
           try clear c22b0
           try clear c24
           try clear c24b0
           try clear c26
           try clear c26b0
           try clear c27
           try clear c27b0
           try clear c28
           try clear c28b0
           try clear c30
           try clear hcz15_0
           try clear hcz15_1
           try clear hfz15_0
           try clear hfz15_1
           try clear hx515_0
           try clear hx515_1
           try clear hx516_0
           try clear hx516_1
           try clear hx518_0
           try clear hx518_1
           try clear hx519_0
           try clear hx519_1
           try clear p2
           try clear p515
           try clear p516
           try clear p518
           try clear p519
           try clear q2
           try clear q21
           try clear q515
           try clear q516
           try clear q518
           try clear q519
           obtain ⟨kq, x61_24, rfl, HA, HJ24, HO_7, HO_509000, HO_509001, BK508, HB⟩ := hcut
           cases kq with
           | zero => exact absurd HA.out (by simp [conciergelaw20_OrderTotal.j3])
           | succ kj24 =>
            have H := HA.out
            clear HA
            simp only [conciergelaw20_OrderTotal.j3] at H
            by_cases c37 : x61_24 = true
            ·subst c37
             rw [if_pos rfl] at H
             obtain rfl := Option.some.inj H
             go_wp2
             go_ret
             exact ⟨by first | rfl | (simp [errW_none, errW_some] <;> rfl) | (simp [*, errW_none, errW_some] <;> rfl), (fB1 GE508)⟩
            ·replace c37 := Bool.eq_false_iff.mpr c37
             subst c37
             rw [if_neg (show ¬ (false = true) by decide)] at H
             have H' := Aside0.mk H
             clear H
             go_wp2
             go_loopg [10] kj24 (fun kq v10 w' => ∃ (x10_5 : Int), v10 = .int .i64 x10_5 ∧ Aside0 (conciergelaw20_OrderTotal.l2 kq true x7_7 x8_2 x9_3 x10_5 t502 t505 = some r) ∧ Aside0 (kq ≤ kj24) ∧ Aside0 (Kd.R k34 34 w' w.heap.size (fun _ => True) (.slice Ao23 x7_7.length co23) x7_7) ∧ Aside0 (Kd.R k52 52 w' w.heap.size (fun _ => True) (.slice Ao14 t502.length co14) t502) ∧ Aside0 (Kd.R Kd.string 9 w' w.heap.size (fun _ => True) (.slice Ao16 t505.length co16) t505) ∧ Aside0 (w'.heap[gb508]? = some (.cells #[(.slice Ao14 t502.length co14), (.slice Ao16 t505.length co16)] 28 (0, 0))) ∧ Aside0 (Below w.heap.size w w'))
             case atStart => exact ⟨(0), s1_, H', ⟨Nat.le_refl _⟩, ⟨(fA0 HO_7)⟩, ⟨(fA0 HO_509000)⟩, ⟨(fA0 HO_509001)⟩, ⟨(fA1 BK508)⟩, ⟨(fB1 GE508)⟩⟩
             case round => as_aux_lemma =>
              clear H'
              try clear c1
              try clear c2
              try clear p2
              try clear q2
              try clear c3
              try clear c4
              try clear p5
              try clear q5
              try clear hx5
              try clear c6
              try clear c7
              try clear c8
              try clear c9
              try clear c10
              try clear c19
              try clear c19b0
              try clear c19b1
              try clear c20
              try clear c20b0
              try clear c20b1
              try clear q21
              try clear c22
              try clear c22b0
              try clear c24
              try clear c24b0
              try clear c26
              try clear c26b0
              try clear c27
              try clear c27b0
              try clear c28
              try clear c28b0
              try clear c30
              try clear c37
              try clear hcz15_0
              try clear hcz15_1
              try clear hfz15_0
              try clear hfz15_1
              try clear hx515_0
              try clear hx515_1
              try clear hx516_0
              try clear hx516_1
              try clear hx518_0
              try clear hx518_1
              try clear hx519_0
              try clear hx519_1
              try clear p2
              try clear p5
              try clear p515
              try clear p516
              try clear p518
              try clear p519
              try clear q2
              try clear q21
              try clear q5
              try clear q515
              try clear q516
              try clear q518
              try clear q519
              obtain ⟨x10_5, rfl, HA, HK5, HO_7, HO_509000, HO_509001, BK508, HB⟩ := hrel
              cases gk with
              | zero => exact absurd HA.out (by simp [conciergelaw20_OrderTotal.l2])
              | succ k5 =>
               have H := HA.out
               clear HA
               simp only [conciergelaw20_OrderTotal.l2] at H
               by_cases c38 : x10_5 < (x7_7.length : Int)
               ·rw [if_pos c38] at H
                have c38b0 : decide (x10_5 < (x7_7.length : Int)) = true := decide_eq_true c38
                clear c38
                by_cases c39 : 0 ≤ x8_2
                ·rw [if_pos c39] at H
                 have c39b0 : decide (0 ≤ x8_2) = true := decide_eq_true c39
                 clear c39
                 by_cases c40 : x8_2 < (x7_7.length : Int)
                 ·rw [if_pos c40] at H
                  have c40b0 : decide (x8_2 < (x7_7.length : Int)) = true := decide_eq_true c40
                  clear c40
                  by_cases c41 : 0 ≤ x9_3
                  ·rw [if_pos c41] at H
                   have c41b0 : decide (0 ≤ x9_3) = true := decide_eq_true c41
                   clear c41
                   by_cases c42 : x9_3 < (x7_7.length : Int)
                   ·rw [if_pos c42] at H
                    have c42b0 : decide (x9_3 < (x7_7.length : Int)) = true := decide_eq_true c42
                    clear c42
                    replace H := Option.bind_eq_some_iff.mp H
                    obtain ⟨t523, A430, H⟩ := H
                    have A43 := Aside0.mk A430
                    clear A430
                    by_cases c44 : t523 = true
                    ·subst c44
                     rw [if_pos rfl] at H
                     by_cases c45 : 0 ≤ x10_5
                     ·rw [if_pos c45] at H
                      have c45b0 : decide (0 ≤ x10_5) = true := decide_eq_true c45
                      clear c45
                      replace H := Option.bind_eq_some_iff.mp H
                      obtain ⟨t526, A460, H⟩ := H
                      have A46 := Aside0.mk A460
                      clear A460
                      by_cases c47 : t526 = true
                      ·subst c47
                       rw [if_pos rfl] at H
                       replace H := Option.bind_eq_some_iff.mp H
                       obtain ⟨t529, A480, H⟩ := H
                       have A48 := Aside0.mk A480
                       clear A480
                       by_cases c49 : t529 = true
                       ·subst c49
                        rw [if_pos rfl] at H
                        have H' := Aside0.mk H
                        clear H
                        try go_wp2
                        have n0_ := Aside0.mk (Kd.R_drew HO_7.out)
                        have n1_ := Aside0.mk (Kd.R_drew HO_509000.out)
                        have n2_ := Aside0.mk (Kd.R_drew HO_509001.out)
                        have n3_ := Aside0.mk (blk_drew BK508.out)
                        have n4_ := Aside0.mk (below_drew1 HB.out)
                        clear HO_7
                        clear HO_509000
                        clear HO_509001
                        clear BK508
                        clear HB
                        have HO_7 := n0_
                        have HO_509000 := n1_
                        have HO_509001 := n2_
                        have BK508 := n3_
                        have HB := n4_
                        clear n0_ n1_ n2_ n3_ n4_
                        have p521 : 0 ≤ (x8_2 : Int) := of_decide_eq_true (by first | (with_reducible assumption) | assumption)
                        have q521 : x8_2 < (x7_7.length : Int) := of_decide_eq_true (by first | (with_reducible assumption) | assumption)
                        obtain ⟨ad521, e521, hx521_0, hx521_1⟩ := at_T34 (Kd.R_reads' HO_7.out).2.2 x8_2 p521 q521
                        cases e521
                        replace p521 := eq_true p521
                        replace q521 := eq_true q521
                        have p522 : 0 ≤ (x9_3 : Int) := of_decide_eq_true (by first | (with_reducible assumption) | assumption)
                        have q522 : x9_3 < (x7_7.length : Int) := of_decide_eq_true (by first | (with_reducible assumption) | assumption)
                        obtain ⟨ad522, e522, hx522_0, hx522_1⟩ := at_T34 (Kd.R_reads' HO_7.out).2.2 x9_3 p522 q522
                        obtain rfl : ad521 = ad522 := (by injection e522)
                        replace p522 := eq_true p522
                        replace q522 := eq_true q522
                        have p524 : 0 ≤ (x9_3 : Int) := of_decide_eq_true (by first | (with_reducible assumption) | assumption)
                        have q524 : x9_3 < (x7_7.length : Int) := of_decide_eq_true (by first | (with_reducible assumption) | assumption)
                        obtain ⟨ad524, e524, hx524_0, hx524_1⟩ := at_T34 (Kd.R_reads' HO_7.out).2.2 x9_3 p524 q524
                        obtain rfl : ad521 = ad524 := (by injection e524)
                        replace p524 := eq_true p524
                        replace q524 := eq_true q524
                        have p525 : 0 ≤ (x10_5 : Int) := of_decide_eq_true (by first | (with_reducible assumption) | assumption)
                        have q525 : x10_5 < (x7_7.length : Int) := of_decide_eq_true (by first | (with_reducible assumption) | assumption)
                        obtain ⟨ad525, e525, hx525_0, hx525_1⟩ := at_T34 (Kd.R_reads' HO_7.out).2.2 x10_5 p525 q525
                        obtain rfl : ad521 = ad525 := (by injection e525)
                        replace p525 := eq_true p525
                        replace q525 := eq_true q525
                        have p527 : 0 ≤ (x8_2 : Int) := of_decide_eq_true (by first | (with_reducible assumption) | assumption)
                        have q527 : x8_2 < (x7_7.length : Int) := of_decide_eq_true (by first | (with_reducible assumption) | assumption)
                        obtain ⟨ad527, e527, hx527_0, hx527_1⟩ := at_T34 (Kd.R_reads' HO_7.out).2.2 x8_2 p527 q527
                        obtain rfl : ad521 = ad527 := (by injection e527)
                        replace p527 := eq_true p527
                        replace q527 := eq_true q527
                        have p528 : 0 ≤ (x10_5 : Int) := of_decide_eq_true (by first | (with_reducible assumption) | assumption)
                        have q528 : x10_5 < (x7_7.length : Int) := of_decide_eq_true (by first | (with_reducible assumption) | assumption)
                        obtain ⟨ad528, e528, hx528_0, hx528_1⟩ := at_T34 (Kd.R_reads' HO_7.out).2.2 x10_5 p528 q528
                        obtain rfl : ad521 = ad528 := (by injection e528)
                        replace p528 := eq_true p528
                        replace q528 := eq_true q528
                        refine start_ (n := 35) (S := fun w' => w'.cell? ⟨gb508, 0, none⟩ = some (.slice Ao14 t502.length co14) ∧ w'.cell? ⟨gb508, 1, none⟩ = some (.slice Ao16 t505.length co16) ∧ w'.cell? (ad521.add ((x8_2).toNat * 2)) = some (.string ((rd_T34 x7_7 x8_2).f0)) ∧ w'.cell? ⟨(ad521.add ((x8_2).toNat * 2)).block, (ad521.add ((x8_2).toNat * 2)).off + 1, none⟩ = some (.string ((rd_T34 x7_7 x8_2).f1)) ∧ w'.cell? (ad521.add ((x9_3).toNat * 2)) = some (.string ((rd_T34 x7_7 x9_3).f0)) ∧ w'.cell? ⟨(ad521.add ((x9_3).toNat * 2)).block, (ad521.add ((x9_3).toNat * 2)).off + 1, none⟩ = some (.string ((rd_T34 x7_7 x9_3).f1)) ∧ w'.cell? (ad521.add ((x9_3).toNat * 2)) = some (.string ((rd_T34 x7_7 x9_3).f0)) ∧ w'.cell? ⟨(ad521.add ((x9_3).toNat * 2)).block, (ad521.add ((x9_3).toNat * 2)).off + 1, none⟩ = some (.string ((rd_T34 x7_7 x9_3).f1)) ∧ w'.cell? (ad521.add ((x10_5).toNat * 2)) = some (.string ((rd_T34 x7_7 x10_5).f0)) ∧ w'.cell? ⟨(ad521.add ((x10_5).toNat * 2)).block, (ad521.add ((x10_5).toNat * 2)).off + 1, none⟩ = some (.string ((rd_T34 x7_7 x10_5).f1)) ∧ w'.cell? (ad521.add ((x8_2).toNat * 2)) = some (.string ((rd_T34 x7_7 x8_2).f0)) ∧ w'.cell? ⟨(ad521.add ((x8_2).toNat * 2)).block, (ad521.add ((x8_2).toNat * 2)).off + 1, none⟩ = some (.string ((rd_T34 x7_7 x8_2).f1)) ∧ w'.cell? (ad521.add ((x10_5).toNat * 2)) = some (.string ((rd_T34 x7_7 x10_5).f0)) ∧ w'.cell? ⟨(ad521.add ((x10_5).toNat * 2)).block, (ad521.add ((x10_5).toNat * 2)).off + 1, none⟩ = some (.string ((rd_T34 x7_7 x10_5).f1))) (ds := []) #[false, false, false, false, false, false, false, false, false, false, false, false, false, false, false, false, false, false, false, false, false, false, false, false, false, false, false, false, false, false, false, false, false, false, false] (by kernel_rfl) rfl rfl ⟨(blk_cell BK508.out 0).trans rfl, (blk_cell BK508.out 1).trans rfl, hx521_0, hx521_1, hx522_0, hx522_1, hx524_0, hx524_1, hx525_0, hx525_1, hx527_0, hx527_1, hx528_0, hx528_1⟩ (fun hHeld => ?_); refine with_tabW conciergelaw20_OrderTotal.tab19 conciergelaw20_OrderTotal.bits19 (fun HT_ HW_ => ?_)
                        generalize wr.drew = w50 at HO_7 HO_509000 HO_509001 BK508 HB hx521_0 hx521_1 hx522_0 hx522_1 hx524_0 hx524_1 hx525_0 hx525_1 hx527_0 hx527_1 hx528_0 hx528_1 hHeld ⊢
                        refine pz_ 1 69 (h := ?_)
                        refine pz_ 2 70 (h := ?_)
                        refine pz_ 3 71 (h := ?_)
                        refine pz_ 5 73 (h := ?_)
                        refine pz_ 6 74 (h := ?_)
                        refine pz_ 7 75 (h := ?_)
                        refine tz_ 0 68 (h := ?_)
                        refine tz_ 4 72 (h := ?_)
                        refine tz_ 8 76 (h := ?_)
                        refine one_ (i := 9) (N := some 77) #[true, true, true, true, true, true, true, true, true, true, false, false, false, false, false, false, false, false, false, false, false, false, false, false, false, false, false, false, false, false, false, false, false, false, false] rfl rfl (one_of HT_.out (by kernel_rfl)) (by decide) (fun K hK => ?_)
                        refine goes_ Try.func20 (by kernel_rfl) rfl #[.agg #[.slice Ao14 t502.length co14, .slice Ao16 t505.length co16], .agg #[.string ((rd_T34 x7_7 x8_2).f0), .string ((rd_T34 x7_7 x8_2).f1)], .agg #[.string ((rd_T34 x7_7 x9_3).f0), .string ((rd_T34 x7_7 x9_3).f1)]] (by rfl) rfl rfl s2_ ?_
                        with_reducible refine (order_Less.calls k5 _ _ t502 _ _ t505 ((rd_T34 x7_7 x8_2).f0) ((rd_T34 x7_7 x8_2).f1) ((rd_T34 x7_7 x9_3).f0) ((rd_T34 x7_7 x9_3).f1) true _ ?side1 ?side2 ?side3 ?side4 A43.out).mono ?_
                        (case side1 => repeat (first | exact (Kd.R_reads' HO_509000.out).2.2 | (with_reducible refine Kd.C_alloc ?_ _) | (with_reducible refine Kd.C_drewN ?_ _) | (with_reducible refine Kd.C_drew ?_)))
                        (case side2 => exact (Kd.R_reads' HO_509000.out).2.1)
                        (case side3 => repeat (first | exact (Kd.R_reads' HO_509001.out).2.2 | (with_reducible refine Kd.C_alloc ?_ _) | (with_reducible refine Kd.C_drewN ?_ _) | (with_reducible refine Kd.C_drew ?_)))
                        (case side4 => exact (Kd.R_reads' HO_509001.out).2.1)
                        rintro e w51 ⟨rfl, hb⟩
                        have HS2_ := (hb.cell (World.block_lt_of_cell? _ _ (hHeld.2.2.1))).trans (hHeld.2.2.1)
                        have HS3_ := (hb.cell (World.block_lt_of_cell? _ _ (hHeld.2.2.2.1))).trans (hHeld.2.2.2.1)
                        have HS4_ := (hb.cell (World.block_lt_of_cell? _ _ (hHeld.2.2.2.2.1))).trans (hHeld.2.2.2.2.1)
                        have HS5_ := (hb.cell (World.block_lt_of_cell? _ _ (hHeld.2.2.2.2.2.1))).trans (hHeld.2.2.2.2.2.1)
                        have HS6_ := (hb.cell (World.block_lt_of_cell? _ _ (hHeld.2.2.2.2.2.2.1))).trans (hHeld.2.2.2.2.2.2.1)
                        have HS7_ := (hb.cell (World.block_lt_of_cell? _ _ (hHeld.2.2.2.2.2.2.2.1))).trans (hHeld.2.2.2.2.2.2.2.1)
                        have HS8_ := (hb.cell (World.block_lt_of_cell? _ _ (hHeld.2.2.2.2.2.2.2.2.1))).trans (hHeld.2.2.2.2.2.2.2.2.1)
                        have HS9_ := (hb.cell (World.block_lt_of_cell? _ _ (hHeld.2.2.2.2.2.2.2.2.2.1))).trans (hHeld.2.2.2.2.2.2.2.2.2.1)
                        have HS10_ := (hb.cell (World.block_lt_of_cell? _ _ (hHeld.2.2.2.2.2.2.2.2.2.2.1))).trans (hHeld.2.2.2.2.2.2.2.2.2.2.1)
                        have HS11_ := (hb.cell (World.block_lt_of_cell? _ _ (hHeld.2.2.2.2.2.2.2.2.2.2.2.1))).trans (hHeld.2.2.2.2.2.2.2.2.2.2.2.1)
                        have HS12_ := (hb.cell (World.block_lt_of_cell? _ _ (hHeld.2.2.2.2.2.2.2.2.2.2.2.2.1))).trans (hHeld.2.2.2.2.2.2.2.2.2.2.2.2.1)
                        have HS13_ := (hb.cell (World.block_lt_of_cell? _ _ (hHeld.2.2.2.2.2.2.2.2.2.2.2.2.2))).trans (hHeld.2.2.2.2.2.2.2.2.2.2.2.2.2)
                        refine ⟨_, rfl, ?_⟩
                        have n0_ := Aside0.mk (Kd.R_below (fA0 HO_7) hb)
                        have n1_ := Aside0.mk (Kd.R_below (fA0 HO_509000) hb)
                        have n2_ := Aside0.mk (Kd.R_below (fA0 HO_509001) hb)
                        have n3_ := Aside0.mk (blk_below (g := gb508) (o := .cells #[.slice Ao14 t502.length co14, .slice Ao16 t505.length co16] 28 (0, 0)) (fA1 BK508) hb)
                        have n4_ := Aside0.mk (below_step (fB1 GE508) hb)
                        clear HO_7
                        clear HO_509000
                        clear HO_509001
                        clear BK508
                        clear HB
                        have HO_7 := n0_
                        have HO_509000 := n1_
                        have HO_509001 := n2_
                        have BK508 := n3_
                        have HB := n4_
                        clear n0_ n1_ n2_ n3_ n4_
                        (try clear hb)
                        (try clear hb2)
                        (try clear hk)
                        (try clear hi)
                        refine hK.out _ _ ⟨(blk_cell BK508.out 0).trans rfl, (blk_cell BK508.out 1).trans rfl, HS2_, HS3_, HS4_, HS5_, HS6_, HS7_, HS8_, HS9_, HS10_, HS11_, HS12_, HS13_⟩ (fun hHeld => ?_)
                        clear hK K
                        refine norm_ (a' := ?_) ?_ ?_
                        rotate_left
                        ·show Act.put _ (some 77) _ = _
                         simp only [Act.put, List.setIfInBounds_toArray, List.set_cons_zero, List.set_cons_succ, i64_w, i32_w]
                         rfl
                        refine pz_ 10 78 (h := ?_)
                        refine pz_ 12 80 (h := ?_)
                        refine pz_ 13 81 (h := ?_)
                        refine pz_ 14 82 (h := ?_)
                        refine pz_ 16 84 (h := ?_)
                        refine pz_ 17 85 (h := ?_)
                        refine pz_ 18 86 (h := ?_)
                        refine tz_ 11 79 (h := ?_)
                        refine tz_ 15 83 (h := ?_)
                        refine tz_ 19 87 (h := ?_)
                        refine one_ (i := 20) (N := some 88) #[true, true, true, true, true, true, true, true, true, true, true, true, true, true, true, true, true, true, true, true, true, false, false, false, false, false, false, false, false, false, false, false, false, false, false] rfl rfl (one_of HT_.out (by kernel_rfl)) (by decide) (fun K hK => ?_)
                        refine goes_ Try.func20 (by kernel_rfl) rfl #[.agg #[.slice Ao14 t502.length co14, .slice Ao16 t505.length co16], .agg #[.string ((rd_T34 x7_7 x9_3).f0), .string ((rd_T34 x7_7 x9_3).f1)], .agg #[.string ((rd_T34 x7_7 x10_5).f0), .string ((rd_T34 x7_7 x10_5).f1)]] (by rfl) rfl rfl s2_ ?_
                        with_reducible refine (order_Less.calls k5 _ _ t502 _ _ t505 ((rd_T34 x7_7 x9_3).f0) ((rd_T34 x7_7 x9_3).f1) ((rd_T34 x7_7 x10_5).f0) ((rd_T34 x7_7 x10_5).f1) true _ ?side1 ?side2 ?side3 ?side4 A46.out).mono ?_
                        (case side1 => repeat (first | exact (Kd.R_reads' HO_509000.out).2.2 | (with_reducible refine Kd.C_alloc ?_ _) | (with_reducible refine Kd.C_drewN ?_ _) | (with_reducible refine Kd.C_drew ?_)))
                        (case side2 => exact (Kd.R_reads' HO_509000.out).2.1)
                        (case side3 => repeat (first | exact (Kd.R_reads' HO_509001.out).2.2 | (with_reducible refine Kd.C_alloc ?_ _) | (with_reducible refine Kd.C_drewN ?_ _) | (with_reducible refine Kd.C_drew ?_)))
                        (case side4 => exact (Kd.R_reads' HO_509001.out).2.1)
                        rintro e w52 ⟨rfl, hb⟩
                        have HS2_ := (hb.cell (World.block_lt_of_cell? _ _ (hHeld.2.2.1))).trans (hHeld.2.2.1)
                        have HS3_ := (hb.cell (World.block_lt_of_cell? _ _ (hHeld.2.2.2.1))).trans (hHeld.2.2.2.1)
                        have HS4_ := (hb.cell (World.block_lt_of_cell? _ _ (hHeld.2.2.2.2.1))).trans (hHeld.2.2.2.2.1)
                        have HS5_ := (hb.cell (World.block_lt_of_cell? _ _ (hHeld.2.2.2.2.2.1))).trans (hHeld.2.2.2.2.2.1)
                        have HS6_ := (hb.cell (World.block_lt_of_cell? _ _ (hHeld.2.2.2.2.2.2.1))).trans (hHeld.2.2.2.2.2.2.1)
                        have HS7_ := (hb.cell (World.block_lt_of_cell? _ _ (hHeld.2.2.2.2.2.2.2.1))).trans (hHeld.2.2.2.2.2.2.2.1)
                        have HS8_ := (hb.cell (World.block_lt_of_cell? _ _ (hHeld.2.2.2.2.2.2.2.2.1))).trans (hHeld.2.2.2.2.2.2.2.2.1)
                        have HS9_ := (hb.cell (World.block_lt_of_cell? _ _ (hHeld.2.2.2.2.2.2.2.2.2.1))).trans (hHeld.2.2.2.2.2.2.2.2.2.1)
                        have HS10_ := (hb.cell (World.block_lt_of_cell? _ _ (hHeld.2.2.2.2.2.2.2.2.2.2.1))).trans (hHeld.2.2.2.2.2.2.2.2.2.2.1)
                        have HS11_ := (hb.cell (World.block_lt_of_cell? _ _ (hHeld.2.2.2.2.2.2.2.2.2.2.2.1))).trans (hHeld.2.2.2.2.2.2.2.2.2.2.2.1)
                        have HS12_ := (hb.cell (World.block_lt_of_cell? _ _ (hHeld.2.2.2.2.2.2.2.2.2.2.2.2.1))).trans (hHeld.2.2.2.2.2.2.2.2.2.2.2.2.1)
                        have HS13_ := (hb.cell (World.block_lt_of_cell? _ _ (hHeld.2.2.2.2.2.2.2.2.2.2.2.2.2))).trans (hHeld.2.2.2.2.2.2.2.2.2.2.2.2.2)
                        refine ⟨_, rfl, ?_⟩
                        have n0_ := Aside0.mk (Kd.R_below (fA0 HO_7) hb)
                        have n1_ := Aside0.mk (Kd.R_below (fA0 HO_509000) hb)
                        have n2_ := Aside0.mk (Kd.R_below (fA0 HO_509001) hb)
                        have n3_ := Aside0.mk (blk_below (g := gb508) (o := .cells #[.slice Ao14 t502.length co14, .slice Ao16 t505.length co16] 28 (0, 0)) (fA1 BK508) hb)
                        have n4_ := Aside0.mk (below_step (fB1 GE508) hb)
                        clear HO_7
                        clear HO_509000
                        clear HO_509001
                        clear BK508
                        clear HB
                        have HO_7 := n0_
                        have HO_509000 := n1_
                        have HO_509001 := n2_
                        have BK508 := n3_
                        have HB := n4_
                        clear n0_ n1_ n2_ n3_ n4_
                        (try clear hb)
                        (try clear hb2)
                        (try clear hk)
                        (try clear hi)
                        refine hK.out _ _ ⟨(blk_cell BK508.out 0).trans rfl, (blk_cell BK508.out 1).trans rfl, HS2_, HS3_, HS4_, HS5_, HS6_, HS7_, HS8_, HS9_, HS10_, HS11_, HS12_, HS13_⟩ (fun hHeld => ?_)
                        clear hK K
                        refine norm_ (a' := ?_) ?_ ?_
                        rotate_left
                        ·show Act.put _ (some 88) _ = _
                         simp only [Act.put, List.setIfInBounds_toArray, List.set_cons_zero, List.set_cons_succ, i64_w, i32_w]
                         rfl
                        refine pz_ 21 89 (h := ?_)
                        refine pz_ 22 90 (h := ?_)
                        refine pz_ 24 92 (h := ?_)
                        refine pz_ 25 93 (h := ?_)
                        refine pz_ 26 94 (h := ?_)
                        refine pz_ 28 96 (h := ?_)
                        refine pz_ 29 97 (h := ?_)
                        refine pz_ 30 98 (h := ?_)
                        refine tz_ 23 91 (h := ?_)
                        refine tz_ 27 95 (h := ?_)
                        refine tz_ 31 99 (h := ?_)
                        refine one_ (i := 32) (N := some 100) #[true, true, true, true, true, true, true, true, true, true, true, true, true, true, true, true, true, true, true, true, true, true, true, true, true, true, true, true, true, true, true, true, true, false, false] rfl rfl (one_of HT_.out (by kernel_rfl)) (by decide) (fun K hK => ?_)
                        refine goes_ Try.func20 (by kernel_rfl) rfl #[.agg #[.slice Ao14 t502.length co14, .slice Ao16 t505.length co16], .agg #[.string ((rd_T34 x7_7 x8_2).f0), .string ((rd_T34 x7_7 x8_2).f1)], .agg #[.string ((rd_T34 x7_7 x10_5).f0), .string ((rd_T34 x7_7 x10_5).f1)]] (by rfl) rfl rfl s2_ ?_
                        with_reducible refine (order_Less.calls k5 _ _ t502 _ _ t505 ((rd_T34 x7_7 x8_2).f0) ((rd_T34 x7_7 x8_2).f1) ((rd_T34 x7_7 x10_5).f0) ((rd_T34 x7_7 x10_5).f1) true _ ?side1 ?side2 ?side3 ?side4 A48.out).mono ?_
                        (case side1 => repeat (first | exact (Kd.R_reads' HO_509000.out).2.2 | (with_reducible refine Kd.C_alloc ?_ _) | (with_reducible refine Kd.C_drewN ?_ _) | (with_reducible refine Kd.C_drew ?_)))
                        (case side2 => exact (Kd.R_reads' HO_509000.out).2.1)
                        (case side3 => repeat (first | exact (Kd.R_reads' HO_509001.out).2.2 | (with_reducible refine Kd.C_alloc ?_ _) | (with_reducible refine Kd.C_drewN ?_ _) | (with_reducible refine Kd.C_drew ?_)))
                        (case side4 => exact (Kd.R_reads' HO_509001.out).2.1)
                        rintro e w53 ⟨rfl, hb⟩
                        have HS2_ := (hb.cell (World.block_lt_of_cell? _ _ (hHeld.2.2.1))).trans (hHeld.2.2.1)
                        have HS3_ := (hb.cell (World.block_lt_of_cell? _ _ (hHeld.2.2.2.1))).trans (hHeld.2.2.2.1)
                        have HS4_ := (hb.cell (World.block_lt_of_cell? _ _ (hHeld.2.2.2.2.1))).trans (hHeld.2.2.2.2.1)
                        have HS5_ := (hb.cell (World.block_lt_of_cell? _ _ (hHeld.2.2.2.2.2.1))).trans (hHeld.2.2.2.2.2.1)
                        have HS6_ := (hb.cell (World.block_lt_of_cell? _ _ (hHeld.2.2.2.2.2.2.1))).trans (hHeld.2.2.2.2.2.2.1)
                        have HS7_ := (hb.cell (World.block_lt_of_cell? _ _ (hHeld.2.2.2.2.2.2.2.1))).trans (hHeld.2.2.2.2.2.2.2.1)
                        have HS8_ := (hb.cell (World.block_lt_of_cell? _ _ (hHeld.2.2.2.2.2.2.2.2.1))).trans (hHeld.2.2.2.2.2.2.2.2.1)
                        have HS9_ := (hb.cell (World.block_lt_of_cell? _ _ (hHeld.2.2.2.2.2.2.2.2.2.1))).trans (hHeld.2.2.2.2.2.2.2.2.2.1)
                        have HS10_ := (hb.cell (World.block_lt_of_cell? _ _ (hHeld.2.2.2.2.2.2.2.2.2.2.1))).trans (hHeld.2.2.2.2.2.2.2.2.2.2.1)
                        have HS11_ := (hb.cell (World.block_lt_of_cell? _ _ (hHeld.2.2.2.2.2.2.2.2.2.2.2.1))).trans (hHeld.2.2.2.2.2.2.2.2.2.2.2.1)
                        have HS12_ := (hb.cell (World.block_lt_of_cell? _ _ (hHeld.2.2.2.2.2.2.2.2.2.2.2.2.1))).trans (hHeld.2.2.2.2.2.2.2.2.2.2.2.2.1)
                        have HS13_ := (hb.cell (World.block_lt_of_cell? _ _ (hHeld.2.2.2.2.2.2.2.2.2.2.2.2.2))).trans (hHeld.2.2.2.2.2.2.2.2.2.2.2.2.2)
                        refine ⟨_, rfl, ?_⟩
                        have n0_ := Aside0.mk (Kd.R_below (fA0 HO_7) hb)
                        have n1_ := Aside0.mk (Kd.R_below (fA0 HO_509000) hb)
                        have n2_ := Aside0.mk (Kd.R_below (fA0 HO_509001) hb)
                        have n3_ := Aside0.mk (blk_below (g := gb508) (o := .cells #[.slice Ao14 t502.length co14, .slice Ao16 t505.length co16] 28 (0, 0)) (fA1 BK508) hb)
                        have n4_ := Aside0.mk (below_step (fB1 GE508) hb)
                        clear HO_7
                        clear HO_509000
                        clear HO_509001
                        clear BK508
                        clear HB
                        have HO_7 := n0_
                        have HO_509000 := n1_
                        have HO_509001 := n2_
                        have BK508 := n3_
                        have HB := n4_
                        clear n0_ n1_ n2_ n3_ n4_
                        (try clear hb)
                        (try clear hb2)
                        (try clear hk)
                        (try clear hi)
                        refine hK.out _ _ ⟨(blk_cell BK508.out 0).trans rfl, (blk_cell BK508.out 1).trans rfl, HS2_, HS3_, HS4_, HS5_, HS6_, HS7_, HS8_, HS9_, HS10_, HS11_, HS12_, HS13_⟩ (fun hHeld => ?_)
                        clear hK K
                        refine norm_ (a' := ?_) ?_ ?_
                        rotate_left
                        ·show Act.put _ (some 100) _ = _
                         simp only [Act.put, List.setIfInBounds_toArray, List.set_cons_zero, List.set_cons_succ, i64_w, i32_w]
                         rfl
                        refine pz_ 33 101 (h := ?_)
                        refine pz_ 34 102 (h := ?_)
                        refine done_ (done_of HT_.out (by kernel_rfl)) ?_
                        try go_wp2
                        go_roundg k5
                        case measure => have := HJ7.out; have := HK2.out; have := HK3.out; have := HJ24.out; have := HK5.out; omega
                        case rel => exact ⟨(wrap64 (x10_5 + 1)), s1_, H', ⟨by have := HJ7.out; have := HK2.out; have := HK3.out; have := HJ24.out; have := HK5.out; omega⟩, ⟨(fA0 HO_7)⟩, ⟨(fA0 HO_509000)⟩, ⟨(fA0 HO_509001)⟩, ⟨(fA1 BK508)⟩, ⟨(fB1 GE508)⟩⟩
                       ·replace c49 := Bool.eq_false_iff.mpr c49
                        subst c49
                        rw [if_neg (show ¬ (false = true) by decide)] at H
                        obtain rfl := Option.some.inj H
                        try go_wp2
                        have n0_ := Aside0.mk (Kd.R_drew HO_7.out)
                        have n1_ := Aside0.mk (Kd.R_drew HO_509000.out)
                        have n2_ := Aside0.mk (Kd.R_drew HO_509001.out)
                        have n3_ := Aside0.mk (blk_drew BK508.out)
                        have n4_ := Aside0.mk (below_drew1 HB.out)
                        clear HO_7
                        clear HO_509000
                        clear HO_509001
                        clear BK508
                        clear HB
                        have HO_7 := n0_
                        have HO_509000 := n1_
                        have HO_509001 := n2_
                        have BK508 := n3_
                        have HB := n4_
                        clear n0_ n1_ n2_ n3_ n4_
                        have p521 : 0 ≤ (x8_2 : Int) := of_decide_eq_true (by first | (with_reducible assumption) | assumption)
                        have q521 : x8_2 < (x7_7.length : Int) := of_decide_eq_true (by first | (with_reducible assumption) | assumption)
                        obtain ⟨ad521, e521, hx521_0, hx521_1⟩ := at_T34 (Kd.R_reads' HO_7.out).2.2 x8_2 p521 q521
                        cases e521
                        replace p521 := eq_true p521
                        replace q521 := eq_true q521
                        have p522 : 0 ≤ (x9_3 : Int) := of_decide_eq_true (by first | (with_reducible assumption) | assumption)
                        have q522 : x9_3 < (x7_7.length : Int) := of_decide_eq_true (by first | (with_reducible assumption) | assumption)
                        obtain ⟨ad522, e522, hx522_0, hx522_1⟩ := at_T34 (Kd.R_reads' HO_7.out).2.2 x9_3 p522 q522
                        obtain rfl : ad521 = ad522 := (by injection e522)
                        replace p522 := eq_true p522
                        replace q522 := eq_true q522
                        have p524 : 0 ≤ (x9_3 : Int) := of_decide_eq_true (by first | (with_reducible assumption) | assumption)
                        have q524 : x9_3 < (x7_7.length : Int) := of_decide_eq_true (by first | (with_reducible assumption) | assumption)
                        obtain ⟨ad524, e524, hx524_0, hx524_1⟩ := at_T34 (Kd.R_reads' HO_7.out).2.2 x9_3 p524 q524
                        obtain rfl : ad521 = ad524 := (by injection e524)
                        replace p524 := eq_true p524
                        replace q524 := eq_true q524
                        have p525 : 0 ≤ (x10_5 : Int) := of_decide_eq_true (by first | (with_reducible assumption) | assumption)
                        have q525 : x10_5 < (x7_7.length : Int) := of_decide_eq_true (by first | (with_reducible assumption) | assumption)
                        obtain ⟨ad525, e525, hx525_0, hx525_1⟩ := at_T34 (Kd.R_reads' HO_7.out).2.2 x10_5 p525 q525
                        obtain rfl : ad521 = ad525 := (by injection e525)
                        replace p525 := eq_true p525
                        replace q525 := eq_true q525
                        have p527 : 0 ≤ (x8_2 : Int) := of_decide_eq_true (by first | (with_reducible assumption) | assumption)
                        have q527 : x8_2 < (x7_7.length : Int) := of_decide_eq_true (by first | (with_reducible assumption) | assumption)
                        obtain ⟨ad527, e527, hx527_0, hx527_1⟩ := at_T34 (Kd.R_reads' HO_7.out).2.2 x8_2 p527 q527
                        obtain rfl : ad521 = ad527 := (by injection e527)
                        replace p527 := eq_true p527
                        replace q527 := eq_true q527
                        have p528 : 0 ≤ (x10_5 : Int) := of_decide_eq_true (by first | (with_reducible assumption) | assumption)
                        have q528 : x10_5 < (x7_7.length : Int) := of_decide_eq_true (by first | (with_reducible assumption) | assumption)
                        obtain ⟨ad528, e528, hx528_0, hx528_1⟩ := at_T34 (Kd.R_reads' HO_7.out).2.2 x10_5 p528 q528
                        obtain rfl : ad521 = ad528 := (by injection e528)
                        replace p528 := eq_true p528
                        replace q528 := eq_true q528
                        refine start_ (n := 35) (S := fun w' => w'.cell? ⟨gb508, 0, none⟩ = some (.slice Ao14 t502.length co14) ∧ w'.cell? ⟨gb508, 1, none⟩ = some (.slice Ao16 t505.length co16) ∧ w'.cell? (ad521.add ((x8_2).toNat * 2)) = some (.string ((rd_T34 x7_7 x8_2).f0)) ∧ w'.cell? ⟨(ad521.add ((x8_2).toNat * 2)).block, (ad521.add ((x8_2).toNat * 2)).off + 1, none⟩ = some (.string ((rd_T34 x7_7 x8_2).f1)) ∧ w'.cell? (ad521.add ((x9_3).toNat * 2)) = some (.string ((rd_T34 x7_7 x9_3).f0)) ∧ w'.cell? ⟨(ad521.add ((x9_3).toNat * 2)).block, (ad521.add ((x9_3).toNat * 2)).off + 1, none⟩ = some (.string ((rd_T34 x7_7 x9_3).f1)) ∧ w'.cell? (ad521.add ((x9_3).toNat * 2)) = some (.string ((rd_T34 x7_7 x9_3).f0)) ∧ w'.cell? ⟨(ad521.add ((x9_3).toNat * 2)).block, (ad521.add ((x9_3).toNat * 2)).off + 1, none⟩ = some (.string ((rd_T34 x7_7 x9_3).f1)) ∧ w'.cell? (ad521.add ((x10_5).toNat * 2)) = some (.string ((rd_T34 x7_7 x10_5).f0)) ∧ w'.cell? ⟨(ad521.add ((x10_5).toNat * 2)).block, (ad521.add ((x10_5).toNat * 2)).off + 1, none⟩ = some (.string ((rd_T34 x7_7 x10_5).f1)) ∧ w'.cell? (ad521.add ((x8_2).toNat * 2)) = some (.string ((rd_T34 x7_7 x8_2).f0)) ∧ w'.cell? ⟨(ad521.add ((x8_2).toNat * 2)).block, (ad521.add ((x8_2).toNat * 2)).off + 1, none⟩ = some (.string ((rd_T34 x7_7 x8_2).f1)) ∧ w'.cell? (ad521.add ((x10_5).toNat * 2)) = some (.string ((rd_T34 x7_7 x10_5).f0)) ∧ w'.cell? ⟨(ad521.add ((x10_5).toNat * 2)).block, (ad521.add ((x10_5).toNat * 2)).off + 1, none⟩ = some (.string ((rd_T34 x7_7 x10_5).f1))) (ds := []) #[false, false, false, false, false, false, false, false, false, false, false, false, false, false, false, false, false, false, false, false, false, false, false, false, false, false, false, false, false, false, false, false, false, false, false] (by kernel_rfl) rfl rfl ⟨(blk_cell BK508.out 0).trans rfl, (blk_cell BK508.out 1).trans rfl, hx521_0, hx521_1, hx522_0, hx522_1, hx524_0, hx524_1, hx525_0, hx525_1, hx527_0, hx527_1, hx528_0, hx528_1⟩ (fun hHeld => ?_); refine with_tabW conciergelaw20_OrderTotal.tab19 conciergelaw20_OrderTotal.bits19 (fun HT_ HW_ => ?_)
                        generalize wr.drew = w54 at HO_7 HO_509000 HO_509001 BK508 HB hx521_0 hx521_1 hx522_0 hx522_1 hx524_0 hx524_1 hx525_0 hx525_1 hx527_0 hx527_1 hx528_0 hx528_1 hHeld ⊢
                        refine pz_ 1 69 (h := ?_)
                        refine pz_ 2 70 (h := ?_)
                        refine pz_ 3 71 (h := ?_)
                        refine pz_ 5 73 (h := ?_)
                        refine pz_ 6 74 (h := ?_)
                        refine pz_ 7 75 (h := ?_)
                        refine tz_ 0 68 (h := ?_)
                        refine tz_ 4 72 (h := ?_)
                        refine tz_ 8 76 (h := ?_)
                        refine one_ (i := 9) (N := some 77) #[true, true, true, true, true, true, true, true, true, true, false, false, false, false, false, false, false, false, false, false, false, false, false, false, false, false, false, false, false, false, false, false, false, false, false] rfl rfl (one_of HT_.out (by kernel_rfl)) (by decide) (fun K hK => ?_)
                        refine goes_ Try.func20 (by kernel_rfl) rfl #[.agg #[.slice Ao14 t502.length co14, .slice Ao16 t505.length co16], .agg #[.string ((rd_T34 x7_7 x8_2).f0), .string ((rd_T34 x7_7 x8_2).f1)], .agg #[.string ((rd_T34 x7_7 x9_3).f0), .string ((rd_T34 x7_7 x9_3).f1)]] (by rfl) rfl rfl s2_ ?_
                        with_reducible refine (order_Less.calls k5 _ _ t502 _ _ t505 ((rd_T34 x7_7 x8_2).f0) ((rd_T34 x7_7 x8_2).f1) ((rd_T34 x7_7 x9_3).f0) ((rd_T34 x7_7 x9_3).f1) true _ ?side1 ?side2 ?side3 ?side4 A43.out).mono ?_
                        (case side1 => repeat (first | exact (Kd.R_reads' HO_509000.out).2.2 | (with_reducible refine Kd.C_alloc ?_ _) | (with_reducible refine Kd.C_drewN ?_ _) | (with_reducible refine Kd.C_drew ?_)))
                        (case side2 => exact (Kd.R_reads' HO_509000.out).2.1)
                        (case side3 => repeat (first | exact (Kd.R_reads' HO_509001.out).2.2 | (with_reducible refine Kd.C_alloc ?_ _) | (with_reducible refine Kd.C_drewN ?_ _) | (with_reducible refine Kd.C_drew ?_)))
                        (case side4 => exact (Kd.R_reads' HO_509001.out).2.1)
                        rintro e w55 ⟨rfl, hb⟩
                        have HS2_ := (hb.cell (World.block_lt_of_cell? _ _ (hHeld.2.2.1))).trans (hHeld.2.2.1)
                        have HS3_ := (hb.cell (World.block_lt_of_cell? _ _ (hHeld.2.2.2.1))).trans (hHeld.2.2.2.1)
                        have HS4_ := (hb.cell (World.block_lt_of_cell? _ _ (hHeld.2.2.2.2.1))).trans (hHeld.2.2.2.2.1)
                        have HS5_ := (hb.cell (World.block_lt_of_cell? _ _ (hHeld.2.2.2.2.2.1))).trans (hHeld.2.2.2.2.2.1)
                        have HS6_ := (hb.cell (World.block_lt_of_cell? _ _ (hHeld.2.2.2.2.2.2.1))).trans (hHeld.2.2.2.2.2.2.1)
                        have HS7_ := (hb.cell (World.block_lt_of_cell? _ _ (hHeld.2.2.2.2.2.2.2.1))).trans (hHeld.2.2.2.2.2.2.2.1)
                        have HS8_ := (hb.cell (World.block_lt_of_cell? _ _ (hHeld.2.2.2.2.2.2.2.2.1))).trans (hHeld.2.2.2.2.2.2.2.2.1)
                        have HS9_ := (hb.cell (World.block_lt_of_cell? _ _ (hHeld.2.2.2.2.2.2.2.2.2.1))).trans (hHeld.2.2.2.2.2.2.2.2.2.1)
                        have HS10_ := (hb.cell (World.block_lt_of_cell? _ _ (hHeld.2.2.2.2.2.2.2.2.2.2.1))).trans (hHeld.2.2.2.2.2.2.2.2.2.2.1)
                        have HS11_ := (hb.cell (World.block_lt_of_cell? _ _ (hHeld.2.2.2.2.2.2.2.2.2.2.2.1))).trans (hHeld.2.2.2.2.2.2.2.2.2.2.2.1)
                        have HS12_ := (hb.cell (World.block_lt_of_cell? _ _ (hHeld.2.2.2.2.2.2.2.2.2.2.2.2.1))).trans (hHeld.2.2.2.2.2.2.2.2.2.2.2.2.1)
                        have HS13_ := (hb.cell (World.block_lt_of_cell? _ _ (hHeld.2.2.2.2.2.2.2.2.2.2.2.2.2))).trans (hHeld.2.2.2.2.2.2.2.2.2.2.2.2.2)
                        refine ⟨_, rfl, ?_⟩
                        have n0_ := Aside0.mk (Kd.R_below (fA0 HO_7) hb)
                        have n1_ := Aside0.mk (Kd.R_below (fA0 HO_509000) hb)
                        have n2_ := Aside0.mk (Kd.R_below (fA0 HO_509001) hb)
                        have n3_ := Aside0.mk (blk_below (g := gb508) (o := .cells #[.slice Ao14 t502.length co14, .slice Ao16 t505.length co16] 28 (0, 0)) (fA1 BK508) hb)
                        have n4_ := Aside0.mk (below_step (fB1 GE508) hb)
                        clear HO_7
                        clear HO_509000
                        clear HO_509001
                        clear BK508
                        clear HB
                        have HO_7 := n0_
                        have HO_509000 := n1_
                        have HO_509001 := n2_
                        have BK508 := n3_
                        have HB := n4_
                        clear n0_ n1_ n2_ n3_ n4_
                        (try clear hb)
                        (try clear hb2)
                        (try clear hk)
                        (try clear hi)
                        refine hK.out _ _ ⟨(blk_cell BK508.out 0).trans rfl, (blk_cell BK508.out 1).trans rfl, HS2_, HS3_, HS4_, HS5_, HS6_, HS7_, HS8_, HS9_, HS10_, HS11_, HS12_, HS13_⟩ (fun hHeld => ?_)
                        clear hK K
                        refine norm_ (a' := ?_) ?_ ?_
                        rotate_left
                        ·show Act.put _ (some 77) _ = _
                         simp only [Act.put, List.setIfInBounds_toArray, List.set_cons_zero, List.set_cons_succ, i64_w, i32_w]
                         rfl
                        refine pz_ 10 78 (h := ?_)
                        refine pz_ 12 80 (h := ?_)
                        refine pz_ 13 81 (h := ?_)
                        refine pz_ 14 82 (h := ?_)
                        refine pz_ 16 84 (h := ?_)
                        refine pz_ 17 85 (h := ?_)
                        refine pz_ 18 86 (h := ?_)
                        refine tz_ 11 79 (h := ?_)
                        refine tz_ 15 83 (h := ?_)
                        refine tz_ 19 87 (h := ?_)
                        refine one_ (i := 20) (N := some 88) #[true, true, true, true, true, true, true, true, true, true, true, true, true, true, true, true, true, true, true, true, true, false, false, false, false, false, false, false, false, false, false, false, false, false, false] rfl rfl (one_of HT_.out (by kernel_rfl)) (by decide) (fun K hK => ?_)
                        refine goes_ Try.func20 (by kernel_rfl) rfl #[.agg #[.slice Ao14 t502.length co14, .slice Ao16 t505.length co16], .agg #[.string ((rd_T34 x7_7 x9_3).f0), .string ((rd_T34 x7_7 x9_3).f1)], .agg #[.string ((rd_T34 x7_7 x10_5).f0), .string ((rd_T34 x7_7 x10_5).f1)]] (by rfl) rfl rfl s2_ ?_
                        with_reducible refine (order_Less.calls k5 _ _ t502 _ _ t505 ((rd_T34 x7_7 x9_3).f0) ((rd_T34 x7_7 x9_3).f1) ((rd_T34 x7_7 x10_5).f0) ((rd_T34 x7_7 x10_5).f1) true _ ?side1 ?side2 ?side3 ?side4 A46.out).mono ?_
                        (case side1 => repeat (first | exact (Kd.R_reads' HO_509000.out).2.2 | (with_reducible refine Kd.C_alloc ?_ _) | (with_reducible refine Kd.C_drewN ?_ _) | (with_reducible refine Kd.C_drew ?_)))
                        (case side2 => exact (Kd.R_reads' HO_509000.out).2.1)
                        (case side3 => repeat (first | exact (Kd.R_reads' HO_509001.out).2.2 | (with_reducible refine Kd.C_alloc ?_ _) | (with_reducible refine Kd.C_drewN ?_ _) | (with_reducible refine Kd.C_drew ?_)))
                        (case side4 => exact (Kd.R_reads' HO_509001.out).2.1)
                        rintro e w56 ⟨rfl, hb⟩
                        have HS2_ := (hb.cell (World.block_lt_of_cell? _ _ (hHeld.2.2.1))).trans (hHeld.2.2.1)
                        have HS3_ := (hb.cell (World.block_lt_of_cell? _ _ (hHeld.2.2.2.1))).trans (hHeld.2.2.2.1)
                        have HS4_ := (hb.cell (World.block_lt_of_cell? _ _ (hHeld.2.2.2.2.1))).trans (hHeld.2.2.2.2.1)
                        have HS5_ := (hb.cell (World.block_lt_of_cell? _ _ (hHeld.2.2.2.2.2.1))).trans (hHeld.2.2.2.2.2.1)
                        have HS6_ := (hb.cell (World.block_lt_of_cell? _ _ (hHeld.2.2.2.2.2.2.1))).trans (hHeld.2.2.2.2.2.2.1)
                        have HS7_ := (hb.cell (World.block_lt_of_cell? _ _ (hHeld.2.2.2.2.2.2.2.1))).trans (hHeld.2.2.2.2.2.2.2.1)
                        have HS8_ := (hb.cell (World.block_lt_of_cell? _ _ (hHeld.2.2.2.2.2.2.2.2.1))).trans (hHeld.2.2.2.2.2.2.2.2.1)
                        have HS9_ := (hb.cell (World.block_lt_of_cell? _ _ (hHeld.2.2.2.2.2.2.2.2.2.1))).trans (hHeld.2.2.2.2.2.2.2.2.2.1)
                        have HS10_ := (hb.cell (World.block_lt_of_cell? _ _ (hHeld.2.2.2.2.2.2.2.2.2.2.1))).trans (hHeld.2.2.2.2.2.2.2.2.2.2.1)
                        have HS11_ := (hb.cell (World.block_lt_of_cell? _ _ (hHeld.2.2.2.2.2.2.2.2.2.2.2.1))).trans (hHeld.2.2.2.2.2.2.2.2.2.2.2.1)
                        have HS12_ := (hb.cell (World.block_lt_of_cell? _ _ (hHeld.2.2.2.2.2.2.2.2.2.2.2.2.1))).trans (hHeld.2.2.2.2.2.2.2.2.2.2.2.2.1)
                        have HS13_ := (hb.cell (World.block_lt_of_cell? _ _ (hHeld.2.2.2.2.2.2.2.2.2.2.2.2.2))).trans (hHeld.2.2.2.2.2.2.2.2.2.2.2.2.2)
                        refine ⟨_, rfl, ?_⟩
                        have n0_ := Aside0.mk (Kd.R_below (fA0 HO_7) hb)
                        have n1_ := Aside0.mk (Kd.R_below (fA0 HO_509000) hb)
                        have n2_ := Aside0.mk (Kd.R_below (fA0 HO_509001) hb)
                        have n3_ := Aside0.mk (blk_below (g := gb508) (o := .cells #[.slice Ao14 t502.length co14, .slice Ao16 t505.length co16] 28 (0, 0)) (fA1 BK508) hb)
                        have n4_ := Aside0.mk (below_step (fB1 GE508) hb)
                        clear HO_7
                        clear HO_509000
                        clear HO_509001
                        clear BK508
                        clear HB
                        have HO_7 := n0_
                        have HO_509000 := n1_
                        have HO_509001 := n2_
                        have BK508 := n3_
                        have HB := n4_
                        clear n0_ n1_ n2_ n3_ n4_
                        (try clear hb)
                        (try clear hb2)
                        (try clear hk)
                        (try clear hi)
                        refine hK.out _ _ ⟨(blk_cell BK508.out 0).trans rfl, (blk_cell BK508.out 1).trans rfl, HS2_, HS3_, HS4_, HS5_, HS6_, HS7_, HS8_, HS9_, HS10_, HS11_, HS12_, HS13_⟩ (fun hHeld => ?_)
                        clear hK K
                        refine norm_ (a' := ?_) ?_ ?_
                        rotate_left
                        ·show Act.put _ (some 88) _ = _
                         simp only [Act.put, List.setIfInBounds_toArray, List.set_cons_zero, List.set_cons_succ, i64_w, i32_w]
                         rfl
                        refine pz_ 21 89 (h := ?_)
                        refine pz_ 22 90 (h := ?_)
                        refine pz_ 24 92 (h := ?_)
                        refine pz_ 25 93 (h := ?_)
                        refine pz_ 26 94 (h := ?_)
                        refine pz_ 28 96 (h := ?_)
                        refine pz_ 29 97 (h := ?_)
                        refine pz_ 30 98 (h := ?_)
                        refine tz_ 23 91 (h := ?_)
                        refine tz_ 27 95 (h := ?_)
                        refine tz_ 31 99 (h := ?_)
                        refine one_ (i := 32) (N := some 100) #[true, true, true, true, true, true, true, true, true, true, true, true, true, true, true, true, true, true, true, true, true, true, true, true, true, true, true, true, true, true, true, true, true, false, false] rfl rfl (one_of HT_.out (by kernel_rfl)) (by decide) (fun K hK => ?_)
                        refine goes_ Try.func20 (by kernel_rfl) rfl #[.agg #[.slice Ao14 t502.length co14, .slice Ao16 t505.length co16], .agg #[.string ((rd_T34 x7_7 x8_2).f0), .string ((rd_T34 x7_7 x8_2).f1)], .agg #[.string ((rd_T34 x7_7 x10_5).f0), .string ((rd_T34 x7_7 x10_5).f1)]] (by rfl) rfl rfl s2_ ?_
                        with_reducible refine (order_Less.calls k5 _ _ t502 _ _ t505 ((rd_T34 x7_7 x8_2).f0) ((rd_T34 x7_7 x8_2).f1) ((rd_T34 x7_7 x10_5).f0) ((rd_T34 x7_7 x10_5).f1) false _ ?side1 ?side2 ?side3 ?side4 A48.out).mono ?_
                        (case side1 => repeat (first | exact (Kd.R_reads' HO_509000.out).2.2 | (with_reducible refine Kd.C_alloc ?_ _) | (with_reducible refine Kd.C_drewN ?_ _) | (with_reducible refine Kd.C_drew ?_)))
                        (case side2 => exact (Kd.R_reads' HO_509000.out).2.1)
                        (case side3 => repeat (first | exact (Kd.R_reads' HO_509001.out).2.2 | (with_reducible refine Kd.C_alloc ?_ _) | (with_reducible refine Kd.C_drewN ?_ _) | (with_reducible refine Kd.C_drew ?_)))
                        (case side4 => exact (Kd.R_reads' HO_509001.out).2.1)
                        rintro e w57 ⟨rfl, hb⟩
                        have HS2_ := (hb.cell (World.block_lt_of_cell? _ _ (hHeld.2.2.1))).trans (hHeld.2.2.1)
                        have HS3_ := (hb.cell (World.block_lt_of_cell? _ _ (hHeld.2.2.2.1))).trans (hHeld.2.2.2.1)
                        have HS4_ := (hb.cell (World.block_lt_of_cell? _ _ (hHeld.2.2.2.2.1))).trans (hHeld.2.2.2.2.1)
                        have HS5_ := (hb.cell (World.block_lt_of_cell? _ _ (hHeld.2.2.2.2.2.1))).trans (hHeld.2.2.2.2.2.1)
                        have HS6_ := (hb.cell (World.block_lt_of_cell? _ _ (hHeld.2.2.2.2.2.2.1))).trans (hHeld.2.2.2.2.2.2.1)
                        have HS7_ := (hb.cell (World.block_lt_of_cell? _ _ (hHeld.2.2.2.2.2.2.2.1))).trans (hHeld.2.2.2.2.2.2.2.1)
                        have HS8_ := (hb.cell (World.block_lt_of_cell? _ _ (hHeld.2.2.2.2.2.2.2.2.1))).trans (hHeld.2.2.2.2.2.2.2.2.1)
                        have HS9_ := (hb.cell (World.block_lt_of_cell? _ _ (hHeld.2.2.2.2.2.2.2.2.2.1))).trans (hHeld.2.2.2.2.2.2.2.2.2.1)
                        have HS10_ := (hb.cell (World.block_lt_of_cell? _ _ (hHeld.2.2.2.2.2.2.2.2.2.2.1))).trans (hHeld.2.2.2.2.2.2.2.2.2.2.1)
                        have HS11_ := (hb.cell (World.block_lt_of_cell? _ _ (hHeld.2.2.2.2.2.2.2.2.2.2.2.1))).trans (hHeld.2.2.2.2.2.2.2.2.2.2.2.1)
                        have HS12_ := (hb.cell (World.block_lt_of_cell? _ _ (hHeld.2.2.2.2.2.2.2.2.2.2.2.2.1))).trans (hHeld.2.2.2.2.2.2.2.2.2.2.2.2.1)
                        have HS13_ := (hb.cell (World.block_lt_of_cell? _ _ (hHeld.2.2.2.2.2.2.2.2.2.2.2.2.2))).trans (hHeld.2.2.2.2.2.2.2.2.2.2.2.2.2)
                        refine ⟨_, rfl, ?_⟩
                        have n0_ := Aside0.mk (Kd.R_below (fA0 HO_7) hb)
                        have n1_ := Aside0.mk (Kd.R_below (fA0 HO_509000) hb)
                        have n2_ := Aside0.mk (Kd.R_below (fA0 HO_509001) hb)
                        have n3_ := Aside0.mk (blk_below (g := gb508) (o := .cells #[.slice Ao14 t502.length co14, .slice Ao16 t505.length co16] 28 (0, 0)) (fA1 BK508) hb)
                        have n4_ := Aside0.mk (below_step (fB1 GE508) hb)
                        clear HO_7
                        clear HO_509000
                        clear HO_509001
                        clear BK508
                        clear HB
                        have HO_7 := n0_
                        have HO_509000 := n1_
                        have HO_509001 := n2_
                        have BK508 := n3_
                        have HB := n4_
                        clear n0_ n1_ n2_ n3_ n4_
                        (try clear hb)
                        (try clear hb2)
                        (try clear hk)
                        (try clear hi)
                        refine hK.out _ _ ⟨(blk_cell BK508.out 0).trans rfl, (blk_cell BK508.out 1).trans rfl, HS2_, HS3_, HS4_, HS5_, HS6_, HS7_, HS8_, HS9_, HS10_, HS11_, HS12_, HS13_⟩ (fun hHeld => ?_)
                        clear hK K
                        refine norm_ (a' := ?_) ?_ ?_
                        rotate_left
                        ·show Act.put _ (some 100) _ = _
                         simp only [Act.put, List.setIfInBounds_toArray, List.set_cons_zero, List.set_cons_succ, i64_w, i32_w]
                         rfl
                        refine pz_ 33 101 (h := ?_)
                        refine pz_ 34 102 (h := ?_)
                        refine done_ (done_of HT_.out (by kernel_rfl)) ?_
                        try go_wp2
                        go_ret
                        exact ⟨by first | rfl | (simp [errW_none, errW_some] <;> rfl) | (simp [*, errW_none, errW_some] <;> rfl), (fB1 GE508)⟩
                      ·replace c47 := Bool.eq_false_iff.mpr c47
                       subst c47
                       rw [if_neg (show ¬ (false = true) by decide)] at H
                       have H' := Aside0.mk H
                       clear H
                       try go_wp2
                       have n0_ := Aside0.mk (Kd.R_drew HO_7.out)
                       have n1_ := Aside0.mk (Kd.R_drew HO_509000.out)
                       have n2_ := Aside0.mk (Kd.R_drew HO_509001.out)
                       have n3_ := Aside0.mk (blk_drew BK508.out)
                       have n4_ := Aside0.mk (below_drew1 HB.out)
                       clear HO_7
                       clear HO_509000
                       clear HO_509001
                       clear BK508
                       clear HB
                       have HO_7 := n0_
                       have HO_509000 := n1_
                       have HO_509001 := n2_
                       have BK508 := n3_
                       have HB := n4_
                       clear n0_ n1_ n2_ n3_ n4_
                       have p521 : 0 ≤ (x8_2 : Int) := of_decide_eq_true (by first | (with_reducible assumption) | assumption)
                       have q521 : x8_2 < (x7_7.length : Int) := of_decide_eq_true (by first | (with_reducible assumption) | assumption)
                       obtain ⟨ad521, e521, hx521_0, hx521_1⟩ := at_T34 (Kd.R_reads' HO_7.out).2.2 x8_2 p521 q521
                       cases e521
                       replace p521 := eq_true p521
                       replace q521 := eq_true q521
                       have p522 : 0 ≤ (x9_3 : Int) := of_decide_eq_true (by first | (with_reducible assumption) | assumption)
                       have q522 : x9_3 < (x7_7.length : Int) := of_decide_eq_true (by first | (with_reducible assumption) | assumption)
                       obtain ⟨ad522, e522, hx522_0, hx522_1⟩ := at_T34 (Kd.R_reads' HO_7.out).2.2 x9_3 p522 q522
                       obtain rfl : ad521 = ad522 := (by injection e522)
                       replace p522 := eq_true p522
                       replace q522 := eq_true q522
                       have p524 : 0 ≤ (x9_3 : Int) := of_decide_eq_true (by first | (with_reducible assumption) | assumption)
                       have q524 : x9_3 < (x7_7.length : Int) := of_decide_eq_true (by first | (with_reducible assumption) | assumption)
                       obtain ⟨ad524, e524, hx524_0, hx524_1⟩ := at_T34 (Kd.R_reads' HO_7.out).2.2 x9_3 p524 q524
                       obtain rfl : ad521 = ad524 := (by injection e524)
                       replace p524 := eq_true p524
                       replace q524 := eq_true q524
                       have p525 : 0 ≤ (x10_5 : Int) := of_decide_eq_true (by first | (with_reducible assumption) | assumption)
                       have q525 : x10_5 < (x7_7.length : Int) := of_decide_eq_true (by first | (with_reducible assumption) | assumption)
                       obtain ⟨ad525, e525, hx525_0, hx525_1⟩ := at_T34 (Kd.R_reads' HO_7.out).2.2 x10_5 p525 q525
                       obtain rfl : ad521 = ad525 := (by injection e525)
                       replace p525 := eq_true p525
                       replace q525 := eq_true q525
                       refine start_ (n := 35) (S := fun w' => w'.cell? ⟨gb508, 0, none⟩ = some (.slice Ao14 t502.length co14) ∧ w'.cell? ⟨gb508, 1, none⟩ = some (.slice Ao16 t505.length co16) ∧ w'.cell? (ad521.add ((x8_2).toNat * 2)) = some (.string ((rd_T34 x7_7 x8_2).f0)) ∧ w'.cell? ⟨(ad521.add ((x8_2).toNat * 2)).block, (ad521.add ((x8_2).toNat * 2)).off + 1, none⟩ = some (.string ((rd_T34 x7_7 x8_2).f1)) ∧ w'.cell? (ad521.add ((x9_3).toNat * 2)) = some (.string ((rd_T34 x7_7 x9_3).f0)) ∧ w'.cell? ⟨(ad521.add ((x9_3).toNat * 2)).block, (ad521.add ((x9_3).toNat * 2)).off + 1, none⟩ = some (.string ((rd_T34 x7_7 x9_3).f1)) ∧ w'.cell? (ad521.add ((x9_3).toNat * 2)) = some (.string ((rd_T34 x7_7 x9_3).f0)) ∧ w'.cell? ⟨(ad521.add ((x9_3).toNat * 2)).block, (ad521.add ((x9_3).toNat * 2)).off + 1, none⟩ = some (.string ((rd_T34 x7_7 x9_3).f1)) ∧ w'.cell? (ad521.add ((x10_5).toNat * 2)) = some (.string ((rd_T34 x7_7 x10_5).f0)) ∧ w'.cell? ⟨(ad521.add ((x10_5).toNat * 2)).block, (ad521.add ((x10_5).toNat * 2)).off + 1, none⟩ = some (.string ((rd_T34 x7_7 x10_5).f1))) (ds := []) #[false, false, false, false, false, false, false, false, false, false, false, false, false, false, false, false, false, false, false, false, false, false, false, false, false, false, false, false, false, false, false, false, false, false, false] (by kernel_rfl) rfl rfl ⟨(blk_cell BK508.out 0).trans rfl, (blk_cell BK508.out 1).trans rfl, hx521_0, hx521_1, hx522_0, hx522_1, hx524_0, hx524_1, hx525_0, hx525_1⟩ (fun hHeld => ?_); refine with_tabW conciergelaw20_OrderTotal.tab19 conciergelaw20_OrderTotal.bits19 (fun HT_ HW_ => ?_)
                       generalize wr.drew = w58 at HO_7 HO_509000 HO_509001 BK508 HB hx521_0 hx521_1 hx522_0 hx522_1 hx524_0 hx524_1 hx525_0 hx525_1 hHeld ⊢
                       refine pz_ 1 69 (h := ?_)
                       refine pz_ 2 70 (h := ?_)
                       refine pz_ 3 71 (h := ?_)
                       refine pz_ 5 73 (h := ?_)
                       refine pz_ 6 74 (h := ?_)
                       refine pz_ 7 75 (h := ?_)
                       refine tz_ 0 68 (h := ?_)
                       refine tz_ 4 72 (h := ?_)
                       refine tz_ 8 76 (h := ?_)
                       refine one_ (i := 9) (N := some 77) #[true, true, true, true, true, true, true, true, true, true, false, false, false, false, false, false, false, false, false, false, false, false, false, false, false, false, false, false, false, false, false, false, false, false, false] rfl rfl (one_of HT_.out (by kernel_rfl)) (by decide) (fun K hK => ?_)
                       refine goes_ Try.func20 (by kernel_rfl) rfl #[.agg #[.slice Ao14 t502.length co14, .slice Ao16 t505.length co16], .agg #[.string ((rd_T34 x7_7 x8_2).f0), .string ((rd_T34 x7_7 x8_2).f1)], .agg #[.string ((rd_T34 x7_7 x9_3).f0), .string ((rd_T34 x7_7 x9_3).f1)]] (by rfl) rfl rfl s2_ ?_
                       with_reducible refine (order_Less.calls k5 _ _ t502 _ _ t505 ((rd_T34 x7_7 x8_2).f0) ((rd_T34 x7_7 x8_2).f1) ((rd_T34 x7_7 x9_3).f0) ((rd_T34 x7_7 x9_3).f1) true _ ?side1 ?side2 ?side3 ?side4 A43.out).mono ?_
                       (case side1 => repeat (first | exact (Kd.R_reads' HO_509000.out).2.2 | (with_reducible refine Kd.C_alloc ?_ _) | (with_reducible refine Kd.C_drewN ?_ _) | (with_reducible refine Kd.C_drew ?_)))
                       (case side2 => exact (Kd.R_reads' HO_509000.out).2.1)
                       (case side3 => repeat (first | exact (Kd.R_reads' HO_509001.out).2.2 | (with_reducible refine Kd.C_alloc ?_ _) | (with_reducible refine Kd.C_drewN ?_ _) | (with_reducible refine Kd.C_drew ?_)))
                       (case side4 => exact (Kd.R_reads' HO_509001.out).2.1)
                       rintro e w59 ⟨rfl, hb⟩
                       have HS2_ := (hb.cell (World.block_lt_of_cell? _ _ (hHeld.2.2.1))).trans (hHeld.2.2.1)
                       have HS3_ := (hb.cell (World.block_lt_of_cell? _ _ (hHeld.2.2.2.1))).trans (hHeld.2.2.2.1)
                       have HS4_ := (hb.cell (World.block_lt_of_cell? _ _ (hHeld.2.2.2.2.1))).trans (hHeld.2.2.2.2.1)
                       have HS5_ := (hb.cell (World.block_lt_of_cell? _ _ (hHeld.2.2.2.2.2.1))).trans (hHeld.2.2.2.2.2.1)
                       have HS6_ := (hb.cell (World.block_lt_of_cell? _ _ (hHeld.2.2.2.2.2.2.1))).trans (hHeld.2.2.2.2.2.2.1)
                       have HS7_ := (hb.cell (World.block_lt_of_cell? _ _ (hHeld.2.2.2.2.2.2.2.1))).trans (hHeld.2.2.2.2.2.2.2.1)
                       have HS8_ := (hb.cell (World.block_lt_of_cell? _ _ (hHeld.2.2.2.2.2.2.2.2.1))).trans (hHeld.2.2.2.2.2.2.2.2.1)
                       have HS9_ := (hb.cell (World.block_lt_of_cell? _ _ (hHeld.2.2.2.2.2.2.2.2.2))).trans (hHeld.2.2.2.2.2.2.2.2.2)
                       refine ⟨_, rfl, ?_⟩
                       have n0_ := Aside0.mk (Kd.R_below (fA0 HO_7) hb)
                       have n1_ := Aside0.mk (Kd.R_below (fA0 HO_509000) hb)
                       have n2_ := Aside0.mk (Kd.R_below (fA0 HO_509001) hb)
                       have n3_ := Aside0.mk (blk_below (g := gb508) (o := .cells #[.slice Ao14 t502.length co14, .slice Ao16 t505.length co16] 28 (0, 0)) (fA1 BK508) hb)
                       have n4_ := Aside0.mk (below_step (fB1 GE508) hb)
                       clear HO_7
                       clear HO_509000
                       clear HO_509001
                       clear BK508
                       clear HB
                       have HO_7 := n0_
                       have HO_509000 := n1_
                       have HO_509001 := n2_
                       have BK508 := n3_
                       have HB := n4_
                       clear n0_ n1_ n2_ n3_ n4_
                       (try clear hb)
                       (try clear hb2)
                       (try clear hk)
                       (try clear hi)
                       refine hK.out _ _ ⟨(blk_cell BK508.out 0).trans rfl, (blk_cell BK508.out 1).trans rfl, HS2_, HS3_, HS4_, HS5_, HS6_, HS7_, HS8_, HS9_⟩ (fun hHeld => ?_)
                       clear hK K
                       refine norm_ (a' := ?_) ?_ ?_
                       rotate_left
                       ·show Act.put _ (some 77) _ = _
                        simp only [Act.put, List.setIfInBounds_toArray, List.set_cons_zero, List.set_cons_succ, i64_w, i32_w]
                        rfl
                       refine pz_ 10 78 (h := ?_)
                       refine pz_ 12 80 (h := ?_)
                       refine pz_ 13 81 (h := ?_)
                       refine pz_ 14 82 (h := ?_)
                       refine pz_ 16 84 (h := ?_)
                       refine pz_ 17 85 (h := ?_)
                       refine pz_ 18 86 (h := ?_)
                       refine tz_ 11 79 (h := ?_)
                       refine tz_ 15 83 (h := ?_)
                       refine tz_ 19 87 (h := ?_)
                       refine one_ (i := 20) (N := some 88) #[true, true, true, true, true, true, true, true, true, true, true, true, true, true, true, true, true, true, true, true, true, false, false, false, false, false, false, false, false, false, false, false, false, false, false] rfl rfl (one_of HT_.out (by kernel_rfl)) (by decide) (fun K hK => ?_)
                       refine goes_ Try.func20 (by kernel_rfl) rfl #[.agg #[.slice Ao14 t502.length co14, .slice Ao16 t505.length co16], .agg #[.string ((rd_T34 x7_7 x9_3).f0), .string ((rd_T34 x7_7 x9_3).f1)], .agg #[.string ((rd_T34 x7_7 x10_5).f0), .string ((rd_T34 x7_7 x10_5).f1)]] (by rfl) rfl rfl s2_ ?_
                       with_reducible refine (order_Less.calls k5 _ _ t502 _ _ t505 ((rd_T34 x7_7 x9_3).f0) ((rd_T34 x7_7 x9_3).f1) ((rd_T34 x7_7 x10_5).f0) ((rd_T34 x7_7 x10_5).f1) false _ ?side1 ?side2 ?side3 ?side4 A46.out).mono ?_
                       (case side1 => repeat (first | exact (Kd.R_reads' HO_509000.out).2.2 | (with_reducible refine Kd.C_alloc ?_ _) | (with_reducible refine Kd.C_drewN ?_ _) | (with_reducible refine Kd.C_drew ?_)))
                       (case side2 => exact (Kd.R_reads' HO_509000.out).2.1)
                       (case side3 => repeat (first | exact (Kd.R_reads' HO_509001.out).2.2 | (with_reducible refine Kd.C_alloc ?_ _) | (with_reducible refine Kd.C_drewN ?_ _) | (with_reducible refine Kd.C_drew ?_)))
                       (case side4 => exact (Kd.R_reads' HO_509001.out).2.1)
                       rintro e w60 ⟨rfl, hb⟩
                       have HS2_ := (hb.cell (World.block_lt_of_cell? _ _ (hHeld.2.2.1))).trans (hHeld.2.2.1)
                       have HS3_ := (hb.cell (World.block_lt_of_cell? _ _ (hHeld.2.2.2.1))).trans (hHeld.2.2.2.1)
                       have HS4_ := (hb.cell (World.block_lt_of_cell? _ _ (hHeld.2.2.2.2.1))).trans (hHeld.2.2.2.2.1)
                       have HS5_ := (hb.cell (World.block_lt_of_cell? _ _ (hHeld.2.2.2.2.2.1))).trans (hHeld.2.2.2.2.2.1)
                       have HS6_ := (hb.cell (World.block_lt_of_cell? _ _ (hHeld.2.2.2.2.2.2.1))).trans (hHeld.2.2.2.2.2.2.1)
                       have HS7_ := (hb.cell (World.block_lt_of_cell? _ _ (hHeld.2.2.2.2.2.2.2.1))).trans (hHeld.2.2.2.2.2.2.2.1)
                       have HS8_ := (hb.cell (World.block_lt_of_cell? _ _ (hHeld.2.2.2.2.2.2.2.2.1))).trans (hHeld.2.2.2.2.2.2.2.2.1)
                       have HS9_ := (hb.cell (World.block_lt_of_cell? _ _ (hHeld.2.2.2.2.2.2.2.2.2))).trans (hHeld.2.2.2.2.2.2.2.2.2)
                       refine ⟨_, rfl, ?_⟩
                       have n0_ := Aside0.mk (Kd.R_below (fA0 HO_7) hb)
                       have n1_ := Aside0.mk (Kd.R_below (fA0 HO_509000) hb)
                       have n2_ := Aside0.mk (Kd.R_below (fA0 HO_509001) hb)
                       have n3_ := Aside0.mk (blk_below (g := gb508) (o := .cells #[.slice Ao14 t502.length co14, .slice Ao16 t505.length co16] 28 (0, 0)) (fA1 BK508) hb)
                       have n4_ := Aside0.mk (below_step (fB1 GE508) hb)
                       clear HO_7
                       clear HO_509000
                       clear HO_509001
                       clear BK508
                       clear HB
                       have HO_7 := n0_
                       have HO_509000 := n1_
                       have HO_509001 := n2_
                       have BK508 := n3_
                       have HB := n4_
                       clear n0_ n1_ n2_ n3_ n4_
                       (try clear hb)
                       (try clear hb2)
                       (try clear hk)
                       (try clear hi)
                       refine hK.out _ _ ⟨(blk_cell BK508.out 0).trans rfl, (blk_cell BK508.out 1).trans rfl, HS2_, HS3_, HS4_, HS5_, HS6_, HS7_, HS8_, HS9_⟩ (fun hHeld => ?_)
                       clear hK K
                       refine norm_ (a' := ?_) ?_ ?_
                       rotate_left
                       ·show Act.put _ (some 88) _ = _
                        simp only [Act.put, List.setIfInBounds_toArray, List.set_cons_zero, List.set_cons_succ, i64_w, i32_w]
                        rfl
                       refine pz_ 21 89 (h := ?_)
                       refine pz_ 22 90 (h := ?_)
                       refine py_ 23 91 (h := ?_)
                       refine py_ 24 92 (h := ?_)
                       refine py_ 25 93 (h := ?_)
                       refine py_ 26 94 (h := ?_)
                       refine py_ 27 95 (h := ?_)
                       refine py_ 28 96 (h := ?_)
                       refine py_ 29 97 (h := ?_)
                       refine py_ 30 98 (h := ?_)
                       refine py_ 31 99 (h := ?_)
                       refine py_ 32 100 (h := ?_)
                       refine py_ 33 101 (h := ?_)
                       refine pz_ 34 102 (h := ?_)
                       refine done_ (done_of HT_.out (by kernel_rfl)) ?_
                       try go_wp2
                       go_roundg k5
                       case measure => have := HJ7.out; have := HK2.out; have := HK3.out; have := HJ24.out; have := HK5.out; omega
                       case rel => exact ⟨(wrap64 (x10_5 + 1)), s1_, H', ⟨by have := HJ7.out; have := HK2.out; have := HK3.out; have := HJ24.out; have := HK5.out; omega⟩, ⟨(fA0 HO_7)⟩, ⟨(fA0 HO_509000)⟩, ⟨(fA0 HO_509001)⟩, ⟨(fA1 BK508)⟩, ⟨(fB1 GE508)⟩⟩
                     ·rw [if_neg c45] at H
                      exact absurd H (by simp)
                    ·replace c44 := Bool.eq_false_iff.mpr c44
                     subst c44
                     rw [if_neg (show ¬ (false = true) by decide)] at H
                     have H' := Aside0.mk H
                     clear H
                     try go_wp2
                     have n0_ := Aside0.mk (Kd.R_drew HO_7.out)
                     have n1_ := Aside0.mk (Kd.R_drew HO_509000.out)
                     have n2_ := Aside0.mk (Kd.R_drew HO_509001.out)
                     have n3_ := Aside0.mk (blk_drew BK508.out)
                     have n4_ := Aside0.mk (below_drew1 HB.out)
                     clear HO_7
                     clear HO_509000
                     clear HO_509001
                     clear BK508
                     clear HB
                     have HO_7 := n0_
                     have HO_509000 := n1_
                     have HO_509001 := n2_
                     have BK508 := n3_
                     have HB := n4_
                     clear n0_ n1_ n2_ n3_ n4_
                     have p521 : 0 ≤ (x8_2 : Int) := of_decide_eq_true (by first | (with_reducible assumption) | assumption)
                     have q521 : x8_2 < (x7_7.length : Int) := of_decide_eq_true (by first | (with_reducible assumption) | assumption)
                     obtain ⟨ad521, e521, hx521_0, hx521_1⟩ := at_T34 (Kd.R_reads' HO_7.out).2.2 x8_2 p521 q521
                     cases e521
                     replace p521 := eq_true p521
                     replace q521 := eq_true q521
                     have p522 : 0 ≤ (x9_3 : Int) := of_decide_eq_true (by first | (with_reducible assumption) | assumption)
                     have q522 : x9_3 < (x7_7.length : Int) := of_decide_eq_true (by first | (with_reducible assumption) | assumption)
                     obtain ⟨ad522, e522, hx522_0, hx522_1⟩ := at_T34 (Kd.R_reads' HO_7.out).2.2 x9_3 p522 q522
                     obtain rfl : ad521 = ad522 := (by injection e522)
                     replace p522 := eq_true p522
                     replace q522 := eq_true q522
                     refine start_ (n := 35) (S := fun w' => w'.cell? ⟨gb508, 0, none⟩ = some (.slice Ao14 t502.length co14) ∧ w'.cell? ⟨gb508, 1, none⟩ = some (.slice Ao16 t505.length co16) ∧ w'.cell? (ad521.add ((x8_2).toNat * 2)) = some (.string ((rd_T34 x7_7 x8_2).f0)) ∧ w'.cell? ⟨(ad521.add ((x8_2).toNat * 2)).block, (ad521.add ((x8_2).toNat * 2)).off + 1, none⟩ = some (.string ((rd_T34 x7_7 x8_2).f1)) ∧ w'.cell? (ad521.add ((x9_3).toNat * 2)) = some (.string ((rd_T34 x7_7 x9_3).f0)) ∧ w'.cell? ⟨(ad521.add ((x9_3).toNat * 2)).block, (ad521.add ((x9_3).toNat * 2)).off + 1, none⟩ = some (.string ((rd_T34 x7_7 x9_3).f1))) (ds := []) #[false, false, false, false, false, false, false, false, false, false, false, false, false, false, false, false, false, false, false, false, false, false, false, false, false, false, false, false, false, false, false, false, false, false, false] (by kernel_rfl) rfl rfl ⟨(blk_cell BK508.out 0).trans rfl, (blk_cell BK508.out 1).trans rfl, hx521_0, hx521_1, hx522_0, hx522_1⟩ (fun hHeld => ?_); refine with_tabW conciergelaw20_OrderTotal.tab19 conciergelaw20_OrderTotal.bits19 (fun HT_ HW_ => ?_)
                     generalize wr.drew = w61 at HO_7 HO_509000 HO_509001 BK508 HB hx521_0 hx521_1 hx522_0 hx522_1 hHeld ⊢
                     refine pz_ 1 69 (h := ?_)
                     refine pz_ 2 70 (h := ?_)
                     refine pz_ 3 71 (h := ?_)
                     refine pz_ 5 73 (h := ?_)
                     refine pz_ 6 74 (h := ?_)
                     refine pz_ 7 75 (h := ?_)
                     refine tz_ 0 68 (h := ?_)
                     refine tz_ 4 72 (h := ?_)
                     refine tz_ 8 76 (h := ?_)
                     refine one_ (i := 9) (N := some 77) #[true, true, true, true, true, true, true, true, true, true, false, false, false, false, false, false, false, false, false, false, false, false, false, false, false, false, false, false, false, false, false, false, false, false, false] rfl rfl (one_of HT_.out (by kernel_rfl)) (by decide) (fun K hK => ?_)
                     refine goes_ Try.func20 (by kernel_rfl) rfl #[.agg #[.slice Ao14 t502.length co14, .slice Ao16 t505.length co16], .agg #[.string ((rd_T34 x7_7 x8_2).f0), .string ((rd_T34 x7_7 x8_2).f1)], .agg #[.string ((rd_T34 x7_7 x9_3).f0), .string ((rd_T34 x7_7 x9_3).f1)]] (by rfl) rfl rfl s2_ ?_
                     with_reducible refine (order_Less.calls k5 _ _ t502 _ _ t505 ((rd_T34 x7_7 x8_2).f0) ((rd_T34 x7_7 x8_2).f1) ((rd_T34 x7_7 x9_3).f0) ((rd_T34 x7_7 x9_3).f1) false _ ?side1 ?side2 ?side3 ?side4 A43.out).mono ?_
                     (case side1 => repeat (first | exact (Kd.R_reads' HO_509000.out).2.2 | (with_reducible refine Kd.C_alloc ?_ _) | (with_reducible refine Kd.C_drewN ?_ _) | (with_reducible refine Kd.C_drew ?_)))
                     (case side2 => exact (Kd.R_reads' HO_509000.out).2.1)
                     (case side3 => repeat (first | exact (Kd.R_reads' HO_509001.out).2.2 | (with_reducible refine Kd.C_alloc ?_ _) | (with_reducible refine Kd.C_drewN ?_ _) | (with_reducible refine Kd.C_drew ?_)))
                     (case side4 => exact (Kd.R_reads' HO_509001.out).2.1)
                     rintro e w62 ⟨rfl, hb⟩
                     have HS2_ := (hb.cell (World.block_lt_of_cell? _ _ (hHeld.2.2.1))).trans (hHeld.2.2.1)
                     have HS3_ := (hb.cell (World.block_lt_of_cell? _ _ (hHeld.2.2.2.1))).trans (hHeld.2.2.2.1)
                     have HS4_ := (hb.cell (World.block_lt_of_cell? _ _ (hHeld.2.2.2.2.1))).trans (hHeld.2.2.2.2.1)
                     have HS5_ := (hb.cell (World.block_lt_of_cell? _ _ (hHeld.2.2.2.2.2))).trans (hHeld.2.2.2.2.2)
                     refine ⟨_, rfl, ?_⟩
                     have n0_ := Aside0.mk (Kd.R_below (fA0 HO_7) hb)
                     have n1_ := Aside0.mk (Kd.R_below (fA0 HO_509000) hb)
                     have n2_ := Aside0.mk (Kd.R_below (fA0 HO_509001) hb)
                     have n3_ := Aside0.mk (blk_below (g := gb508) (o := .cells #[.slice Ao14 t502.length co14, .slice Ao16 t505.length co16] 28 (0, 0)) (fA1 BK508) hb)
                     have n4_ := Aside0.mk (below_step (fB1 GE508) hb)
                     clear HO_7
                     clear HO_509000
                     clear HO_509001
                     clear BK508
                     clear HB
                     have HO_7 := n0_
                     have HO_509000 := n1_
                     have HO_509001 := n2_
                     have BK508 := n3_
                     have HB := n4_
                     clear n0_ n1_ n2_ n3_ n4_
                     (try clear hb)
                     (try clear hb2)
                     (try clear hk)
                     (try clear hi)
                     refine hK.out _ _ ⟨(blk_cell BK508.out 0).trans rfl, (blk_cell BK508.out 1).trans rfl, HS2_, HS3_, HS4_, HS5_⟩ (fun hHeld => ?_)
                     clear hK K
                     refine norm_ (a' := ?_) ?_ ?_
                     rotate_left
                     ·show Act.put _ (some 77) _ = _
                      simp only [Act.put, List.setIfInBounds_toArray, List.set_cons_zero, List.set_cons_succ, i64_w, i32_w]
                      rfl
                     refine pz_ 10 78 (h := ?_)
                     refine py_ 11 79 (h := ?_)
                     refine py_ 12 80 (h := ?_)
                     refine py_ 13 81 (h := ?_)
                     refine py_ 14 82 (h := ?_)
                     refine py_ 15 83 (h := ?_)
                     refine py_ 16 84 (h := ?_)
                     refine py_ 17 85 (h := ?_)
                     refine py_ 18 86 (h := ?_)
                     refine py_ 19 87 (h := ?_)
                     refine py_ 20 88 (h := ?_)
                     refine pz_ 21 89 (h := ?_)
                     refine pz_ 22 90 (h := ?_)
                     refine py_ 23 91 (h := ?_)
                     refine py_ 24 92 (h := ?_)
                     refine py_ 25 93 (h := ?_)
                     refine py_ 26 94 (h := ?_)
                     refine py_ 27 95 (h := ?_)
                     refine py_ 28 96 (h := ?_)
                     refine py_ 29 97 (h := ?_)
                     refine py_ 30 98 (h := ?_)
                     refine py_ 31 99 (h := ?_)
                     refine py_ 32 100 (h := ?_)
                     refine py_ 33 101 (h := ?_)
                     refine pz_ 34 102 (h := ?_)
                     refine done_ (done_of HT_.out (by kernel_rfl)) ?_
                     try go_wp2
                     go_roundg k5
                     case measure => have := HJ7.out; have := HK2.out; have := HK3.out; have := HJ24.out; have := HK5.out; omega
                     case rel => exact ⟨(wrap64 (x10_5 + 1)), s1_, H', ⟨by have := HJ7.out; have := HK2.out; have := HK3.out; have := HJ24.out; have := HK5.out; omega⟩, ⟨(fA0 HO_7)⟩, ⟨(fA0 HO_509000)⟩, ⟨(fA0 HO_509001)⟩, ⟨(fA1 BK508)⟩, ⟨(fB1 GE508)⟩⟩
                   ·rw [if_neg c42] at H
                    exact absurd H (by simp)
                  ·rw [if_neg c41] at H
                   exact absurd H (by simp)
                 ·rw [if_neg c40] at H
                  exact absurd H (by simp)
                ·rw [if_neg c39] at H
                 exact absurd H (by simp)
               ·rw [if_neg c38] at H
                have c38b0 : decide (x10_5 < (x7_7.length : Int)) = false := decide_eq_false c38
                clear c38
                have H' := Aside0.mk H
                clear H
                go_wp2
                go_roundg k5
                case measure => have := HJ7.out; have := HK2.out; have := HK3.out; have := HJ24.out; have := HK5.out; omega
                case rel => exact ⟨(wrap64 (x9_3 + 1)), s1_, H', ⟨by have := HJ7.out; have := HK2.out; have := HK3.out; have := HJ24.out; have := HK5.out; omega⟩, ⟨(fA0 HO_7)⟩, ⟨(fA0 HO_509000)⟩, ⟨(fA0 HO_509001)⟩, ⟨(fA1 BK508)⟩, ⟨(fB1 GE508)⟩⟩
         ·rw [if_neg c24] at H
          have c24b0 : decide (x9_3 < (x7_7.length : Int)) = false := decide_eq_false c24
          clear c24
          have H' := Aside0.mk H
          clear H
          go_wp2
          go_roundg k3
          case measure => have := HJ7.out; have := HK2.out; have := HK3.out; omega
          case rel => exact ⟨(wrap64 (x8_2 + 1)), s1_, H', ⟨by have := HJ7.out; have := HK2.out; have := HK3.out; omega⟩, ⟨(fA0 HO_7)⟩, ⟨(fA0 HO_509000)⟩, ⟨(fA0 HO_509001)⟩, ⟨(fA1 BK508)⟩, ⟨(fB1 GE508)⟩⟩
      ·rw [if_neg c22] at H
       have c22b0 : decide (x8_2 < (x7_7.length : Int)) = false := decide_eq_false c22
       clear c22
       replace H := Option.bind_eq_some_iff.mp H
       obtain ⟨t530, A630, H⟩ := H
       have A63 := Aside0.mk A630
       clear A630
       by_cases c64 : (t530.length : Int) = (x7_7.length : Int)
       ·rw [if_pos c64] at H
        have c64b0 : ((t530.length : Int) == (x7_7.length : Int)) = true := beq_iff_eq.mpr c64
        have c64b1 : ((t530.length : Int) != (x7_7.length : Int)) = false := bne_eq_false_iff_eq.mpr c64
        have c64b2 : (t530.length == x7_7.length) = true := by first | simpa using c64 | (simp at c64 ⊢; omega)
        clear c64
        have H' := Aside0.mk H
        clear H
        obtain ⟨Ao65, co65, eo65⟩ := Kd.R_slice HO_7.out
        subst eo65
        have hcz66_0 : wr.cell? ⟨gb508, 0, none⟩ = some (.slice Ao14 t502.length co14) := (blk_cell BK508.out 0).trans rfl
        have hcz66_1 : wr.cell? ⟨gb508, 1, none⟩ = some (.slice Ao16 t505.length co16) := (blk_cell BK508.out 1).trans rfl
        have hfz66_0 := blk_frozen BK508.out 0
        have hfz66_1 := blk_frozen BK508.out 1
        go_wp2_with (first | ((with_reducible refine gate_callee (f := 11) rfl ?_); refine goesL_ (some 105) rfl rfl Try.func11 (by kernel_rfl) rfl #[.agg #[.slice Ao14 t502.length co14, .slice Ao16 t505.length co16], .slice Ao65 x7_7.length co65] rfl s2_ ?_; (with_reducible refine (order_Sort.calls k2 _ _ t502 _ _ t505 _ _ x7_7 t530 _ ?side1 ?side2 ?side3 ?side4 ?side5 ?side6 A63.out).mono ?_); (case side1 => repeat (first | exact (Kd.R_reads' HO_509000.out).2.2 | (with_reducible refine Kd.C_alloc ?_ _) | (with_reducible refine Kd.C_drewN ?_ _) | (with_reducible refine Kd.C_drew ?_))); (case side2 => exact (Kd.R_reads' HO_509000.out).2.1); (case side3 => repeat (first | exact (Kd.R_reads' HO_509001.out).2.2 | (with_reducible refine Kd.C_alloc ?_ _) | (with_reducible refine Kd.C_drewN ?_ _) | (with_reducible refine Kd.C_drew ?_))); (case side4 => exact (Kd.R_reads' HO_509001.out).2.1); (case side5 => repeat (first | exact (Kd.R_reads' HO_7.out).2.2 | (with_reducible refine Kd.C_alloc ?_ _) | (with_reducible refine Kd.C_drewN ?_ _) | (with_reducible refine Kd.C_drew ?_))); (case side6 => exact (Kd.R_reads' HO_7.out).2.1); rintro e w67 ⟨v531, rfl, ho0, hb⟩; refine ⟨_, rfl, ?_⟩; have n0_ := Aside0.mk (Kd.R_elder' (fA0 HO_7) (Kd.R_base ho0) hb); have n1_ := Aside0.mk (Kd.R_below (fA0 HO_509000) hb); have n2_ := Aside0.mk (Kd.R_below (fA0 HO_509001) hb); have n3_ := Aside0.mk (Kd.R_lower (Kd.R_new' ho0 (Kd.R_lt (fA0 HO_7))) (below_size (fB1 GE508))); have n4_ := Aside0.mk (blk_below (g := gb508) (o := .cells #[.slice Ao14 t502.length co14, .slice Ao16 t505.length co16] 28 (0, 0)) (fA1 BK508) hb); have n5_ := Aside0.mk (below_step (fB1 GE508) hb); clear HO_7; clear HO_509000; clear HO_509001; clear BK508; clear HB; have HO_7 := n0_; have HO_509000 := n1_; have HO_509001 := n2_; have HO532 := n3_; have BK508 := n4_; have HB := n5_; clear n0_ n1_ n2_ n3_ n4_ n5_; (try clear hb); (try clear hb2); (try clear hk); (try clear hi); (try clear ho0); obtain ⟨Ao68, co68, eo68⟩ := Kd.R_slice HO532.out; subst eo68))
        go_loopg [12] k2 (fun kq v12 w' => ∃ (x12_3 : Int), v12 = .int .i64 x12_3 ∧ Aside0 (conciergelaw20_OrderTotal.l3 kq true x7_7 t530 x12_3 t502 t505 = some r) ∧ Aside0 (kq ≤ k2) ∧ Aside0 (Kd.R k34 34 w' w.heap.size (fun k_ => some k_ ≠ ((.slice Ao68 t530.length co68) : Value).ownBlock) (.slice Ao65 x7_7.length co65) x7_7) ∧ Aside0 (Kd.R k34 34 w' w.heap.size (fun k_ => some k_ ≠ ((.slice Ao65 x7_7.length co65) : Value).ownBlock) (.slice Ao68 t530.length co68) t530) ∧ Aside0 (Kd.R k52 52 w' w.heap.size (fun _ => True) (.slice Ao14 t502.length co14) t502) ∧ Aside0 (Kd.R Kd.string 9 w' w.heap.size (fun _ => True) (.slice Ao16 t505.length co16) t505) ∧ Aside0 (w'.heap[gb508]? = some (.cells #[(.slice Ao14 t502.length co14), (.slice Ao16 t505.length co16)] 28 (0, 0))) ∧ Aside0 (Below w.heap.size w w'))
        case atStart => exact ⟨(0), s1_, H', ⟨Nat.le_refl _⟩, ⟨by (with_reducible repeat (first | apply Kd.R_alloc | apply Kd.R_drewN | apply Kd.R_drew)); exact Kd.R_mono HO_7.out (fun _ hk => hk.2)⟩, ⟨by (with_reducible repeat (first | apply Kd.R_alloc | apply Kd.R_drewN | apply Kd.R_drew)); exact Kd.R_mono HO532.out (fun _ hk => hk.2)⟩, ⟨(fA0 HO_509000)⟩, ⟨(fA0 HO_509001)⟩, ⟨(fA1 BK508)⟩, ⟨(fB1 GE508)⟩⟩
        case round => as_aux_lemma =>
         clear H'
         try clear c1
         try clear c2
         try clear p2
         try clear c3
         try clear c4
         try clear p5
         try clear q5
         try clear hx5
         try clear c6
         try clear p6
         try clear c11
         try clear c20
         try clear c22
         try clear c22b0
         try clear c24
         try clear c24b0
         try clear c38
         try clear c38b0
         try clear c39
         try clear c40
         try clear c41
         try clear c42
         try clear c44
         try clear c45
         try clear p52
         try clear q52
         try clear hx52
         try clear c64
         try clear c64b0
         try clear c64b1
         try clear c64b2
         try clear p64
         try clear hcz66_0
         try clear hcz66_1
         try clear hfz66_0
         try clear hfz66_1
         try clear hx521_0
         try clear hx521_1
         try clear hx522_0
         try clear hx522_1
         try clear p521
         try clear p522
         try clear q521
         try clear q522
         obtain ⟨x12_3, rfl, HA, HK3, HO_7, HO_11, HO_509000, HO_509001, BK508, HB⟩ := hrel
         cases gk with
         | zero => exact absurd HA.out (by simp [conciergelaw20_OrderTotal.l3])
         | succ k3 =>
          have H := HA.out
          clear HA
          simp only [conciergelaw20_OrderTotal.l3] at H
          by_cases c69 : x12_3 < (t530.length : Int)
          ·rw [if_pos c69] at H
           have c69b0 : decide (x12_3 < (t530.length : Int)) = true := decide_eq_true c69
           clear c69
           have H' := Aside0.mk H
           clear H
           go_wp2
           go_loopg [13, 14] k3 (fun kq v13 v14 w' => ∃ (x13_4 : Int) (x14_4 : Int), v13 = .int .i64 x13_4 ∧ v14 = .int .i64 x14_4 ∧ Aside0 (conciergelaw20_OrderTotal.l4 kq true x7_7 t530 x12_3 x13_4 x14_4 t502 t505 = some r) ∧ Aside0 (kq ≤ k3) ∧ Aside0 (Kd.R k34 34 w' w.heap.size (fun k_ => some k_ ≠ ((.slice Ao68 t530.length co68) : Value).ownBlock) (.slice Ao65 x7_7.length co65) x7_7) ∧ Aside0 (Kd.R k34 34 w' w.heap.size (fun k_ => some k_ ≠ ((.slice Ao65 x7_7.length co65) : Value).ownBlock) (.slice Ao68 t530.length co68) t530) ∧ Aside0 (Kd.R k52 52 w' w.heap.size (fun _ => True) (.slice Ao14 t502.length co14) t502) ∧ Aside0 (Kd.R Kd.string 9 w' w.heap.size (fun _ => True) (.slice Ao16 t505.length co16) t505) ∧ Aside0 (w'.heap[gb508]? = some (.cells #[(.slice Ao14 t502.length co14), (.slice Ao16 t505.length co16)] 28 (0, 0))) ∧ Aside0 (Below w.heap.size w w'))
           case atStart => exact ⟨(0), (0), s1_, s1_, H', ⟨Nat.le_refl _⟩, ⟨(fA0 HO_7)⟩, ⟨(fA0 HO_11)⟩, ⟨(fA0 HO_509000)⟩, ⟨(fA0 HO_509001)⟩, ⟨(fA1 BK508)⟩, ⟨(fB1 GE508)⟩⟩
           case round => as_aux_lemma =>
            clear H'
            try clear c1
            try clear c2
            try clear p2
            try clear c3
            try clear c4
            try clear p5
            try clear q5
            try clear hx5
            try clear c6
            try clear p6
            try clear c11
            try clear c20
            try clear c22
            try clear c22b0
            try clear c24
            try clear c24b0
            try clear c38
            try clear c38b0
            try clear c39
            try clear c40
            try clear c41
            try clear c42
            try clear c44
            try clear c45
            try clear p52
            try clear q52
            try clear hx52
            try clear c64
            try clear c64b0
            try clear c64b1
            try clear c64b2
            try clear p64
            try clear c69
            try clear c69b0
            try clear hcz66_0
            try clear hcz66_1
            try clear hfz66_0
            try clear hfz66_1
            try clear hx521_0
            try clear hx521_1
            try clear hx522_0
            try clear hx522_1
            try clear p2
            try clear p5
            try clear p52
            try clear p521
            try clear p522
            try clear p6
            try clear p64
            try clear q5
            try clear q52
            try clear q521
            try clear q522
            obtain ⟨x13_4, x14_4, rfl, rfl, HA, HK4, HO_7, HO_11, HO_509000, HO_509001, BK508, HB⟩ := hrel
            cases gk with
            | zero => exact absurd HA.out (by simp [conciergelaw20_OrderTotal.l4])
            | succ k4 =>
             have H := HA.out
             clear HA
             simp only [conciergelaw20_OrderTotal.l4] at H
             by_cases c70 : x14_4 < (t530.length : Int)
             ·rw [if_pos c70] at H
              have c70b0 : decide (x14_4 < (t530.length : Int)) = true := decide_eq_true c70
              clear c70
              have HC71 := Aside0.mk H
              clear H
              go_upto_region 31 with (fail)
              go_cut [137] (fun v137 wc => ∃ (kq : Nat) (x137_70 : Bool), v137 = .bool x137_70 ∧ Aside0 (conciergelaw20_OrderTotal.j7 kq true x7_7 t530 x12_3 x13_4 x14_4 x137_70 t502 t505 = some r) ∧ Aside0 (kq ≤ k4) ∧ Aside0 (Kd.R k34 34 wc w.heap.size (fun k_ => some k_ ≠ ((.slice Ao68 t530.length co68) : Value).ownBlock) (.slice Ao65 x7_7.length co65) x7_7) ∧ Aside0 (Kd.R k34 34 wc w.heap.size (fun k_ => some k_ ≠ ((.slice Ao65 x7_7.length co65) : Value).ownBlock) (.slice Ao68 t530.length co68) t530) ∧ Aside0 (Kd.R k52 52 wc w.heap.size (fun _ => True) (.slice Ao14 t502.length co14) t502) ∧ Aside0 (Kd.R Kd.string 9 wc w.heap.size (fun _ => True) (.slice Ao16 t505.length co16) t505) ∧ Aside0 (wc.heap[gb508]? = some (.cells #[(.slice Ao14 t502.length co14), (.slice Ao16 t505.length co16)] 28 (0, 0))) ∧ Aside0 (Below w.heap.size w wc))
              case first => as_aux_lemma =>
               have H := HC71.out
               clear HC71
               by_cases c72 : x14_4 > x12_3
               ·rw [if_pos c72] at H
                have c72b0 : decide (x12_3 < x14_4) = true := decide_eq_true c72
                clear c72
                (first | rw [c72b0] | (simp only [i64_w, i32_w]; rw [c72b0]) | skip)
                by_cases c73 : 0 ≤ x14_4
                ·rw [if_pos c73] at H
                 have c73b0 : decide (0 ≤ x14_4) = true := decide_eq_true c73
                 clear c73
                 by_cases c74 : 0 ≤ x12_3
                 ·rw [if_pos c74] at H
                  have c74b0 : decide (0 ≤ x12_3) = true := decide_eq_true c74
                  clear c74
                  by_cases c75 : x12_3 < (t530.length : Int)
                  ·rw [if_pos c75] at H
                   have c75b0 : decide (x12_3 < (t530.length : Int)) = true := decide_eq_true c75
                   clear c75
                   replace H := Option.bind_eq_some_iff.mp H
                   obtain ⟨t535, A760, H⟩ := H
                   have A76 := Aside0.mk A760
                   clear A760
                   have H' := Aside0.mk H
                   clear H
                   try go_wp2
                   have n0_ := Aside0.mk (Kd.R_drew HO_7.out)
                   have n1_ := Aside0.mk (Kd.R_drew HO_11.out)
                   have n2_ := Aside0.mk (Kd.R_drew HO_509000.out)
                   have n3_ := Aside0.mk (Kd.R_drew HO_509001.out)
                   have n4_ := Aside0.mk (blk_drew BK508.out)
                   have n5_ := Aside0.mk (below_drew1 HB.out)
                   clear HO_7
                   clear HO_11
                   clear HO_509000
                   clear HO_509001
                   clear BK508
                   clear HB
                   have HO_7 := n0_
                   have HO_11 := n1_
                   have HO_509000 := n2_
                   have HO_509001 := n3_
                   have BK508 := n4_
                   have HB := n5_
                   clear n0_ n1_ n2_ n3_ n4_ n5_
                   have p533 : 0 ≤ (x14_4 : Int) := of_decide_eq_true (by first | (with_reducible assumption) | assumption)
                   have q533 : x14_4 < (t530.length : Int) := of_decide_eq_true (by first | (with_reducible assumption) | assumption)
                   obtain ⟨ad533, e533, hx533_0, hx533_1⟩ := at_T34 (Kd.R_reads' HO_11.out).2.2 x14_4 p533 q533
                   cases e533
                   replace p533 := eq_true p533
                   replace q533 := eq_true q533
                   have p534 : 0 ≤ (x12_3 : Int) := of_decide_eq_true (by first | (with_reducible assumption) | assumption)
                   have q534 : x12_3 < (t530.length : Int) := of_decide_eq_true (by first | (with_reducible assumption) | assumption)
                   obtain ⟨ad534, e534, hx534_0, hx534_1⟩ := at_T34 (Kd.R_reads' HO_11.out).2.2 x12_3 p534 q534
                   obtain rfl : ad533 = ad534 := (by injection e534)
                   replace p534 := eq_true p534
                   replace q534 := eq_true q534
                   refine start_ (n := 15) (S := fun w' => w'.cell? ⟨gb508, 0, none⟩ = some (.slice Ao14 t502.length co14) ∧ w'.cell? ⟨gb508, 1, none⟩ = some (.slice Ao16 t505.length co16) ∧ w'.cell? (ad533.add ((x14_4).toNat * 2)) = some (.string ((rd_T34 t530 x14_4).f0)) ∧ w'.cell? ⟨(ad533.add ((x14_4).toNat * 2)).block, (ad533.add ((x14_4).toNat * 2)).off + 1, none⟩ = some (.string ((rd_T34 t530 x14_4).f1)) ∧ w'.cell? (ad533.add ((x12_3).toNat * 2)) = some (.string ((rd_T34 t530 x12_3).f0)) ∧ w'.cell? ⟨(ad533.add ((x12_3).toNat * 2)).block, (ad533.add ((x12_3).toNat * 2)).off + 1, none⟩ = some (.string ((rd_T34 t530 x12_3).f1))) (ds := []) #[false, false, false, false, false, false, false, false, false, false, false, false, false, false, false] (by kernel_rfl) rfl rfl ⟨(blk_cell BK508.out 0).trans rfl, (blk_cell BK508.out 1).trans rfl, hx533_0, hx533_1, hx534_0, hx534_1⟩ (fun hHeld => ?_); refine with_tabW conciergelaw20_OrderTotal.tab31 conciergelaw20_OrderTotal.bits31 (fun HT_ HW_ => ?_)
                   generalize wr.drew = w77 at HO_7 HO_11 HO_509000 HO_509001 BK508 HB hx533_0 hx533_1 hx534_0 hx534_1 hHeld ⊢
                   refine pz_ 0 123 (h := ?_)
                   refine pz_ 1 124 (h := ?_)
                   refine pz_ 2 125 (h := ?_)
                   refine pz_ 3 126 (h := ?_)
                   refine pz_ 5 128 (h := ?_)
                   refine pz_ 6 129 (h := ?_)
                   refine pz_ 7 130 (h := ?_)
                   refine pz_ 9 132 (h := ?_)
                   refine pz_ 10 133 (h := ?_)
                   refine pz_ 11 134 (h := ?_)
                   refine tz_ 4 127 (h := ?_)
                   refine tz_ 8 131 (h := ?_)
                   refine tz_ 12 135 (h := ?_)
                   refine one_ (i := 13) (N := some 136) #[true, true, true, true, true, true, true, true, true, true, true, true, true, true, false] rfl rfl (one_of HT_.out (by kernel_rfl)) (by decide) (fun K hK => ?_)
                   refine goes_ Try.func20 (by kernel_rfl) rfl #[.agg #[.slice Ao14 t502.length co14, .slice Ao16 t505.length co16], .agg #[.string ((rd_T34 t530 x14_4).f0), .string ((rd_T34 t530 x14_4).f1)], .agg #[.string ((rd_T34 t530 x12_3).f0), .string ((rd_T34 t530 x12_3).f1)]] (by rfl) rfl rfl s2_ ?_
                   with_reducible refine (order_Less.calls k4 _ _ t502 _ _ t505 ((rd_T34 t530 x14_4).f0) ((rd_T34 t530 x14_4).f1) ((rd_T34 t530 x12_3).f0) ((rd_T34 t530 x12_3).f1) t535 _ ?side1 ?side2 ?side3 ?side4 A76.out).mono ?_
                   (case side1 => repeat (first | exact (Kd.R_reads' HO_509000.out).2.2 | (with_reducible refine Kd.C_alloc ?_ _) | (with_reducible refine Kd.C_drewN ?_ _) | (with_reducible refine Kd.C_drew ?_)))
                   (case side2 => exact (Kd.R_reads' HO_509000.out).2.1)
                   (case side3 => repeat (first | exact (Kd.R_reads' HO_509001.out).2.2 | (with_reducible refine Kd.C_alloc ?_ _) | (with_reducible refine Kd.C_drewN ?_ _) | (with_reducible refine Kd.C_drew ?_)))
                   (case side4 => exact (Kd.R_reads' HO_509001.out).2.1)
                   rintro e w78 ⟨rfl, hb⟩
                   have HS2_ := (hb.cell (World.block_lt_of_cell? _ _ (hHeld.2.2.1))).trans (hHeld.2.2.1)
                   have HS3_ := (hb.cell (World.block_lt_of_cell? _ _ (hHeld.2.2.2.1))).trans (hHeld.2.2.2.1)
                   have HS4_ := (hb.cell (World.block_lt_of_cell? _ _ (hHeld.2.2.2.2.1))).trans (hHeld.2.2.2.2.1)
                   have HS5_ := (hb.cell (World.block_lt_of_cell? _ _ (hHeld.2.2.2.2.2))).trans (hHeld.2.2.2.2.2)
                   refine ⟨_, rfl, ?_⟩
                   have n0_ := Aside0.mk (Kd.R_below (fA0 HO_7) hb)
                   have n1_ := Aside0.mk (Kd.R_below (fA0 HO_11) hb)
                   have n2_ := Aside0.mk (Kd.R_below (fA0 HO_509000) hb)
                   have n3_ := Aside0.mk (Kd.R_below (fA0 HO_509001) hb)
                   have n4_ := Aside0.mk (blk_below (g := gb508) (o := .cells #[.slice Ao14 t502.length co14, .slice Ao16 t505.length co16] 28 (0, 0)) (fA1 BK508) hb)
                   have n5_ := Aside0.mk (below_step (fB1 GE508) hb)
                   clear HO_7
                   clear HO_11
                   clear HO_509000
                   clear HO_509001
                   clear BK508
                   clear HB
                   have HO_7 := n0_
                   have HO_11 := n1_
                   have HO_509000 := n2_
                   have HO_509001 := n3_
                   have BK508 := n4_
                   have HB := n5_
                   clear n0_ n1_ n2_ n3_ n4_ n5_
                   (try clear hb)
                   (try clear hb2)
                   (try clear hk)
                   (try clear hi)
                   refine hK.out _ _ ⟨(blk_cell BK508.out 0).trans rfl, (blk_cell BK508.out 1).trans rfl, HS2_, HS3_, HS4_, HS5_⟩ (fun hHeld => ?_)
                   clear hK K
                   refine norm_ (a' := ?_) ?_ ?_
                   rotate_left
                   ·show Act.put _ (some 136) _ = _
                    simp only [Act.put, List.setIfInBounds_toArray, List.set_cons_zero, List.set_cons_succ, i64_w, i32_w]
                    rfl
                   refine pz_ 14 137 (h := ?_)
                   refine done_ (done_of HT_.out (by kernel_rfl)) ?_
                   try go_wp2
                   go_meet
                   case rel => exact ⟨_, (t535), s1_, H', ⟨by have := HJ7.out; have := HK2.out; have := HK3.out; have := HK4.out; first | omega | exact Nat.le_refl _⟩, ⟨(fA0 HO_7)⟩, ⟨(fA0 HO_11)⟩, ⟨(fA0 HO_509000)⟩, ⟨(fA0 HO_509001)⟩, ⟨(fA1 BK508)⟩, ⟨(fB1 GE508)⟩⟩
                  ·rw [if_neg c75] at H
                   exact absurd H (by simp)
                 ·rw [if_neg c74] at H
                  exact absurd H (by simp)
                ·rw [if_neg c73] at H
                 exact absurd H (by simp)
               ·rw [if_neg c72] at H
                have c72b0 : decide (x12_3 < x14_4) = false := decide_eq_false c72
                clear c72
                (first | rw [c72b0] | (simp only [i64_w, i32_w]; rw [c72b0]) | skip)
                have H' := Aside0.mk H
                clear H
                try go_wp2
                have n0_ := Aside0.mk (Kd.R_drew HO_7.out)
                have n1_ := Aside0.mk (Kd.R_drew HO_11.out)
                have n2_ := Aside0.mk (Kd.R_drew HO_509000.out)
                have n3_ := Aside0.mk (Kd.R_drew HO_509001.out)
                have n4_ := Aside0.mk (blk_drew BK508.out)
                have n5_ := Aside0.mk (below_drew1 HB.out)
                clear HO_7
                clear HO_11
                clear HO_509000
                clear HO_509001
                clear BK508
                clear HB
                have HO_7 := n0_
                have HO_11 := n1_
                have HO_509000 := n2_
                have HO_509001 := n3_
                have BK508 := n4_
                have HB := n5_
                clear n0_ n1_ n2_ n3_ n4_ n5_
                refine start_ (n := 15) (S := fun w' => True) (ds := []) #[false, false, false, false, false, false, false, false, false, false, false, false, false, false, false] (by kernel_rfl) rfl rfl trivial (fun hHeld => ?_); refine with_tabW conciergelaw20_OrderTotal.tab31 conciergelaw20_OrderTotal.bits31 (fun HT_ HW_ => ?_)
                generalize wr.drew = w79 at HO_7 HO_11 HO_509000 HO_509001 BK508 HB hHeld ⊢
                refine pz_ 0 123 (h := ?_)
                refine pz_ 1 124 (h := ?_)
                refine pz_ 2 125 (h := ?_)
                refine pz_ 3 126 (h := ?_)
                refine py_ 4 127 (h := ?_)
                refine py_ 5 128 (h := ?_)
                refine py_ 6 129 (h := ?_)
                refine py_ 7 130 (h := ?_)
                refine py_ 8 131 (h := ?_)
                refine py_ 9 132 (h := ?_)
                refine py_ 10 133 (h := ?_)
                refine py_ 11 134 (h := ?_)
                refine py_ 12 135 (h := ?_)
                refine py_ 13 136 (h := ?_)
                refine pz_ 14 137 (h := ?_)
                refine done_ (done_of HT_.out (by kernel_rfl)) ?_
                try go_wp2
                go_meet
                case rel => exact ⟨_, (false), s1_, H', ⟨by have := HJ7.out; have := HK2.out; have := HK3.out; have := HK4.out; first | omega | exact Nat.le_refl _⟩, ⟨(fA0 HO_7)⟩, ⟨(fA0 HO_11)⟩, ⟨(fA0 HO_509000)⟩, ⟨(fA0 HO_509001)⟩, ⟨(fA1 BK508)⟩, ⟨(fB1 GE508)⟩⟩
              case rest => as_aux_lemma =>
               clear HC71
               try clear c1
               try clear c2
               try clear p2
               try clear c3
               try clear c4
               try clear p5
               try clear q5
               try clear hx5
               try clear c6
               try clear p6
               try clear c7
               try clear c11
               try clear c20
               try clear c22
               try clear c22b0
               try clear c24
               try clear c24b0
               try clear c38
               try clear c38b0
               try clear c39
               try clear c40
               try clear c41
               try clear c42
               try clear c44
               try clear c45
               try clear p52
               try clear q52
               try clear hx52
               try clear p53
               try clear q53
               try clear hx53
               try clear c64
               try clear c64b0
               try clear c64b1
               try clear c64b2
               try clear p64
               try clear c69
               try clear c69b0
               try clear c70
               try clear c70b0
               try clear c72
               try clear c72b0
               try clear c73
               try clear c73b0
               try clear c74
               try clear c74b0
               try clear c75
               try clear c75b0
               try clear hcz66_0
               try clear hcz66_1
               try clear hfz66_0
               try clear hfz66_1
               try clear hx521_0
               try clear hx521_1
               try clear hx522_0
               try clear hx522_1
               try clear hx533_0
               try clear hx533_1
               try clear hx534_0
               try clear hx534_1
               try clear p2
               try clear p5
               try clear p52
               try clear p521
               try clear p522
               try clear p533
               try clear p534
               try clear p6
               try clear p64
               try clear q5
               try clear q52
               try clear q521
               try clear q522
               try clear q533
               try clear q534
               obtain ⟨kq, x137_70, rfl, HA, HJ70, HO_7, HO_11, HO_509000, HO_509001, BK508, HB⟩ := hcut
               cases kq with
               | zero => exact absurd HA.out (by simp [conciergelaw20_OrderTotal.j7])
               | succ kj70 =>
                have H := HA.out
                clear HA
                simp only [conciergelaw20_OrderTotal.j7] at H
                by_cases c80 : x137_70 = true
                ·subst c80
                 rw [if_pos rfl] at H
                 obtain rfl := Option.some.inj H
                 go_wp2
                 go_ret
                 exact ⟨by first | rfl | (simp [errW_none, errW_some] <;> rfl) | (simp [*, errW_none, errW_some] <;> rfl), (fB1 GE508)⟩
                ·replace c80 := Bool.eq_false_iff.mpr c80
                 subst c80
                 rw [if_neg (show ¬ (false = true) by decide)] at H
                 have HC81 := Aside0.mk H
                 clear H
                 go_upto_region 33 with (fail)
                 go_cut [161] (fun v161 wc => ∃ (kq : Nat) (x161_80 : Bool), v161 = .bool x161_80 ∧ Aside0 (conciergelaw20_OrderTotal.j8 kq true x7_7 t530 x12_3 x13_4 x14_4 x161_80 t502 t505 = some r) ∧ Aside0 (kq ≤ kj70) ∧ Aside0 (Kd.R k34 34 wc w.heap.size (fun k_ => some k_ ≠ ((.slice Ao68 t530.length co68) : Value).ownBlock) (.slice Ao65 x7_7.length co65) x7_7) ∧ Aside0 (Kd.R k34 34 wc w.heap.size (fun k_ => some k_ ≠ ((.slice Ao65 x7_7.length co65) : Value).ownBlock) (.slice Ao68 t530.length co68) t530) ∧ Aside0 (Kd.R k52 52 wc w.heap.size (fun _ => True) (.slice Ao14 t502.length co14) t502) ∧ Aside0 (Kd.R Kd.string 9 wc w.heap.size (fun _ => True) (.slice Ao16 t505.length co16) t505) ∧ Aside0 (wc.heap[gb508]? = some (.cells #[(.slice Ao14 t502.length co14), (.slice Ao16 t505.length co16)] 28 (0, 0))) ∧ Aside0 (Below w.heap.size w wc))
                 case first => as_aux_lemma =>
                  have H := HC81.out
                  clear HC81
                  by_cases c82 : 0 ≤ x14_4
                  ·rw [if_pos c82] at H
                   have c82b0 : decide (0 ≤ x14_4) = true := decide_eq_true c82
                   clear c82
                   (first | rw [c82b0] | (simp only [i64_w, i32_w]; rw [c82b0]) | skip)
                   by_cases c83 : x14_4 < (t530.length : Int)
                   ·rw [if_pos c83] at H
                    have c83b0 : decide (x14_4 < (t530.length : Int)) = true := decide_eq_true c83
                    clear c83
                    by_cases c84 : 0 ≤ x12_3
                    ·rw [if_pos c84] at H
                     have c84b0 : decide (0 ≤ x12_3) = true := decide_eq_true c84
                     clear c84
                     by_cases c85 : x12_3 < (t530.length : Int)
                     ·rw [if_pos c85] at H
                      have c85b0 : decide (x12_3 < (t530.length : Int)) = true := decide_eq_true c85
                      clear c85
                      by_cases c86 : ((rd_T34 t530 x14_4).f0).toList = ((rd_T34 t530 x12_3).f0).toList
                      ·rw [if_pos c86] at H
                       have c86b0 : (((rd_T34 t530 x14_4).f0).toList == ((rd_T34 t530 x12_3).f0).toList) = true := beq_iff_eq.mpr c86
                       have c86b1 : (((rd_T34 t530 x14_4).f0).toList != ((rd_T34 t530 x12_3).f0).toList) = false := bne_eq_false_iff_eq.mpr c86
                       clear c86
                       have H' := Aside0.mk H
                       clear H
                       try go_wp2
                       have n0_ := Aside0.mk (Kd.R_drew HO_7.out)
                       have n1_ := Aside0.mk (Kd.R_drew HO_11.out)
                       have n2_ := Aside0.mk (Kd.R_drew HO_509000.out)
                       have n3_ := Aside0.mk (Kd.R_drew HO_509001.out)
                       have n4_ := Aside0.mk (blk_drew BK508.out)
                       have n5_ := Aside0.mk (below_drew1 HB.out)
                       clear HO_7
                       clear HO_11
                       clear HO_509000
                       clear HO_509001
                       clear BK508
                       clear HB
                       have HO_7 := n0_
                       have HO_11 := n1_
                       have HO_509000 := n2_
                       have HO_509001 := n3_
                       have BK508 := n4_
                       have HB := n5_
                       clear n0_ n1_ n2_ n3_ n4_ n5_
                       have p536 : 0 ≤ (x14_4 : Int) := of_decide_eq_true (by first | (with_reducible assumption) | assumption)
                       have q536 : x14_4 < (t530.length : Int) := of_decide_eq_true (by first | (with_reducible assumption) | assumption)
                       obtain ⟨ad536, e536, hx536_0, hx536_1⟩ := at_T34 (Kd.R_reads' HO_11.out).2.2 x14_4 p536 q536
                       cases e536
                       replace p536 := eq_true p536
                       replace q536 := eq_true q536
                       have p537 : 0 ≤ (x12_3 : Int) := of_decide_eq_true (by first | (with_reducible assumption) | assumption)
                       have q537 : x12_3 < (t530.length : Int) := of_decide_eq_true (by first | (with_reducible assumption) | assumption)
                       obtain ⟨ad537, e537, hx537_0, hx537_1⟩ := at_T34 (Kd.R_reads' HO_11.out).2.2 x12_3 p537 q537
                       obtain rfl : ad536 = ad537 := (by injection e537)
                       replace p537 := eq_true p537
                       replace q537 := eq_true q537
                       have p538 : 0 ≤ (x14_4 : Int) := of_decide_eq_true (by first | (with_reducible assumption) | assumption)
                       have q538 : x14_4 < (t530.length : Int) := of_decide_eq_true (by first | (with_reducible assumption) | assumption)
                       obtain ⟨ad538, e538, hx538_0, hx538_1⟩ := at_T34 (Kd.R_reads' HO_11.out).2.2 x14_4 p538 q538
                       obtain rfl : ad536 = ad538 := (by injection e538)
                       replace p538 := eq_true p538
                       replace q538 := eq_true q538
                       have p539 : 0 ≤ (x12_3 : Int) := of_decide_eq_true (by first | (with_reducible assumption) | assumption)
                       have q539 : x12_3 < (t530.length : Int) := of_decide_eq_true (by first | (with_reducible assumption) | assumption)
                       obtain ⟨ad539, e539, hx539_0, hx539_1⟩ := at_T34 (Kd.R_reads' HO_11.out).2.2 x12_3 p539 q539
                       obtain rfl : ad536 = ad539 := (by injection e539)
                       replace p539 := eq_true p539
                       replace q539 := eq_true q539
                       refine start_ (n := 24) (S := fun w' => w'.cell? (ad536.add ((x14_4).toNat * 2)) = some (.string ((rd_T34 t530 x14_4).f0)) ∧ w'.cell? ⟨(ad536.add ((x14_4).toNat * 2)).block, (ad536.add ((x14_4).toNat * 2)).off + 1, none⟩ = some (.string ((rd_T34 t530 x14_4).f1)) ∧ w'.cell? (ad536.add ((x12_3).toNat * 2)) = some (.string ((rd_T34 t530 x12_3).f0)) ∧ w'.cell? ⟨(ad536.add ((x12_3).toNat * 2)).block, (ad536.add ((x12_3).toNat * 2)).off + 1, none⟩ = some (.string ((rd_T34 t530 x12_3).f1)) ∧ w'.cell? (ad536.add ((x14_4).toNat * 2)) = some (.string ((rd_T34 t530 x14_4).f0)) ∧ w'.cell? ⟨(ad536.add ((x14_4).toNat * 2)).block, (ad536.add ((x14_4).toNat * 2)).off + 1, none⟩ = some (.string ((rd_T34 t530 x14_4).f1)) ∧ w'.cell? (ad536.add ((x12_3).toNat * 2)) = some (.string ((rd_T34 t530 x12_3).f0)) ∧ w'.cell? ⟨(ad536.add ((x12_3).toNat * 2)).block, (ad536.add ((x12_3).toNat * 2)).off + 1, none⟩ = some (.string ((rd_T34 t530 x12_3).f1))) (ds := []) #[false, false, false, false, false, false, false, false, false, false, false, false, false, false, false, false, false, false, false, false, false, false, false, false] (by kernel_rfl) rfl rfl ⟨hx536_0, hx536_1, hx537_0, hx537_1, hx538_0, hx538_1, hx539_0, hx539_1⟩ (fun hHeld => ?_); refine with_tabW conciergelaw20_OrderTotal.tab33 conciergelaw20_OrderTotal.bits33 (fun HT_ HW_ => ?_)
                       generalize wc.drew = w87 at HO_7 HO_11 HO_509000 HO_509001 BK508 HB hx536_0 hx536_1 hx537_0 hx537_1 hx538_0 hx538_1 hx539_0 hx539_1 hHeld ⊢
                       refine pz_ 0 138 (h := ?_)
                       refine pz_ 1 139 (h := ?_)
                       refine pz_ 2 140 (h := ?_)
                       refine pz_ 3 141 (h := ?_)
                       refine pz_ 5 143 (h := ?_)
                       refine pz_ 6 144 (h := ?_)
                       refine pz_ 7 145 (h := ?_)
                       refine pz_ 8 146 (h := ?_)
                       refine tz_ 4 142 (h := ?_)
                       refine tz_ 9 147 (h := ?_)
                       refine pz_ 10 148 (h := ?_)
                       refine pz_ 11 149 (h := ?_)
                       refine pz_ 12 150 (h := ?_)
                       refine pz_ 13 151 (h := ?_)
                       refine pz_ 14 152 (h := ?_)
                       refine pz_ 15 153 (h := ?_)
                       refine pz_ 17 155 (h := ?_)
                       refine pz_ 18 156 (h := ?_)
                       refine pz_ 19 157 (h := ?_)
                       refine pz_ 20 158 (h := ?_)
                       refine tz_ 16 154 (h := ?_)
                       refine tz_ 21 159 (h := ?_)
                       refine pz_ 22 160 (h := ?_)
                       refine pz_ 23 161 (h := ?_)
                       refine done_ (done_of HT_.out (by kernel_rfl)) ?_
                       try go_wp2
                       go_meet
                       case rel => exact ⟨_, ((((rd_T34 t530 x14_4).f1).toList == ((rd_T34 t530 x12_3).f1).toList)), s1_, H', ⟨by have := HJ7.out; have := HK2.out; have := HK3.out; have := HK4.out; have := HJ70.out; first | omega | exact Nat.le_refl _⟩, ⟨(fA0 HO_7)⟩, ⟨(fA0 HO_11)⟩, ⟨(fA0 HO_509000)⟩, ⟨(fA0 HO_509001)⟩, ⟨(fA1 BK508)⟩, ⟨(fB1 GE508)⟩⟩
                      ·rw [if_neg c86] at H
                       have c86b0 : (((rd_T34 t530 x14_4).f0).toList == ((rd_T34 t530 x12_3).f0).toList) = false := beq_eq_false_iff_ne.mpr c86
                       have c86b1 : (((rd_T34 t530 x14_4).f0).toList != ((rd_T34 t530 x12_3).f0).toList) = true := bne_iff_ne.mpr c86
                       have H' := Aside0.mk H
                       clear H
                       try go_wp2
                       have n0_ := Aside0.mk (Kd.R_drew HO_7.out)
                       have n1_ := Aside0.mk (Kd.R_drew HO_11.out)
                       have n2_ := Aside0.mk (Kd.R_drew HO_509000.out)
                       have n3_ := Aside0.mk (Kd.R_drew HO_509001.out)
                       have n4_ := Aside0.mk (blk_drew BK508.out)
                       have n5_ := Aside0.mk (below_drew1 HB.out)
                       clear HO_7
                       clear HO_11
                       clear HO_509000
                       clear HO_509001
                       clear BK508
                       clear HB
                       have HO_7 := n0_
                       have HO_11 := n1_
                       have HO_509000 := n2_
                       have HO_509001 := n3_
                       have BK508 := n4_
                       have HB := n5_
                       clear n0_ n1_ n2_ n3_ n4_ n5_
                       have p536 : 0 ≤ (x14_4 : Int) := of_decide_eq_true (by first | (with_reducible assumption) | assumption)
                       have q536 : x14_4 < (t530.length : Int) := of_decide_eq_true (by first | (with_reducible assumption) | assumption)
                       obtain ⟨ad536, e536, hx536_0, hx536_1⟩ := at_T34 (Kd.R_reads' HO_11.out).2.2 x14_4 p536 q536
                       cases e536
                       replace p536 := eq_true p536
                       replace q536 := eq_true q536
                       have p537 : 0 ≤ (x12_3 : Int) := of_decide_eq_true (by first | (with_reducible assumption) | assumption)
                       have q537 : x12_3 < (t530.length : Int) := of_decide_eq_true (by first | (with_reducible assumption) | assumption)
                       obtain ⟨ad537, e537, hx537_0, hx537_1⟩ := at_T34 (Kd.R_reads' HO_11.out).2.2 x12_3 p537 q537
                       obtain rfl : ad536 = ad537 := (by injection e537)
                       replace p537 := eq_true p537
                       replace q537 := eq_true q537
                       refine start_ (n := 24) (S := fun w' => w'.cell? (ad536.add ((x14_4).toNat * 2)) = some (.string ((rd_T34 t530 x14_4).f0)) ∧ w'.cell? ⟨(ad536.add ((x14_4).toNat * 2)).block, (ad536.add ((x14_4).toNat * 2)).off + 1, none⟩ = some (.string ((rd_T34 t530 x14_4).f1)) ∧ w'.cell? (ad536.add ((x12_3).toNat * 2)) = some (.string ((rd_T34 t530 x12_3).f0)) ∧ w'.cell? ⟨(ad536.add ((x12_3).toNat * 2)).block, (ad536.add ((x12_3).toNat * 2)).off + 1, none⟩ = some (.string ((rd_T34 t530 x12_3).f1))) (ds := []) #[false, false, false, false, false, false, false, false, false, false, false, false, false, false, false, false, false, false, false, false, false, false, false, false] (by kernel_rfl) rfl rfl ⟨hx536_0, hx536_1, hx537_0, hx537_1⟩ (fun hHeld => ?_); refine with_tabW conciergelaw20_OrderTotal.tab33 conciergelaw20_OrderTotal.bits33 (fun HT_ HW_ => ?_)
                       generalize wc.drew = w88 at HO_7 HO_11 HO_509000 HO_509001 BK508 HB hx536_0 hx536_1 hx537_0 hx537_1 hHeld ⊢
                       refine pz_ 0 138 (h := ?_)
                       refine pz_ 1 139 (h := ?_)
                       refine pz_ 2 140 (h := ?_)
                       refine pz_ 3 141 (h := ?_)
                       refine pz_ 5 143 (h := ?_)
                       refine pz_ 6 144 (h := ?_)
                       refine pz_ 7 145 (h := ?_)
                       refine pz_ 8 146 (h := ?_)
                       refine tz_ 4 142 (h := ?_)
                       refine tz_ 9 147 (h := ?_)
                       refine pz_ 10 148 (h := ?_)
                       refine pz_ 11 149 (h := ?_)
                       refine py_ 12 150 (h := ?_)
                       refine py_ 13 151 (h := ?_)
                       refine py_ 14 152 (h := ?_)
                       refine py_ 15 153 (h := ?_)
                       refine py_ 16 154 (h := ?_)
                       refine py_ 17 155 (h := ?_)
                       refine py_ 18 156 (h := ?_)
                       refine py_ 19 157 (h := ?_)
                       refine py_ 20 158 (h := ?_)
                       refine py_ 21 159 (h := ?_)
                       refine py_ 22 160 (h := ?_)
                       refine pz_ 23 161 (h := ?_)
                       refine done_ (done_of HT_.out (by kernel_rfl)) ?_
                       try go_wp2
                       go_meet
                       case rel => exact ⟨_, (false), s1_, H', ⟨by have := HJ7.out; have := HK2.out; have := HK3.out; have := HK4.out; have := HJ70.out; first | omega | exact Nat.le_refl _⟩, ⟨(fA0 HO_7)⟩, ⟨(fA0 HO_11)⟩, ⟨(fA0 HO_509000)⟩, ⟨(fA0 HO_509001)⟩, ⟨(fA1 BK508)⟩, ⟨(fB1 GE508)⟩⟩
                     ·rw [if_neg c85] at H
                      exact absurd H (by simp)
                    ·rw [if_neg c84] at H
                     exact absurd H (by simp)
                   ·rw [if_neg c83] at H
                    exact absurd H (by simp)
                  ·rw [if_neg c82] at H
                   exact absurd H (by simp)
                 case rest => as_aux_lemma =>
                  clear HC81
                  try clear c1
                  try clear c2
                  try clear p2
                  try clear c3
                  try clear c4
                  try clear p5
                  try clear q5
                  try clear hx5
                  try clear c6
                  try clear p6
                  try clear c7
                  try clear c8
                  try clear c11
                  try clear c20
                  try clear c22
                  try clear c22b0
                  try clear c24
                  try clear c24b0
                  try clear c38
                  try clear c38b0
                  try clear c39
                  try clear c40
                  try clear c41
                  try clear c42
                  try clear c44
                  try clear c45
                  try clear p52
                  try clear q52
                  try clear hx52
                  try clear p53
                  try clear q53
                  try clear hx53
                  try clear c64
                  try clear c64b0
                  try clear c64b1
                  try clear c64b2
                  try clear p64
                  try clear c69
                  try clear c69b0
                  try clear c70
                  try clear c70b0
                  try clear c72
                  try clear c72b0
                  try clear c73
                  try clear c73b0
                  try clear c74
                  try clear c74b0
                  try clear c75
                  try clear c75b0
                  try clear c80
                  try clear c82
                  try clear c82b0
                  try clear c83
                  try clear c83b0
                  try clear c84
                  try clear c84b0
                  try clear c85
                  try clear c85b0
                  try clear c86
                  try clear c86b0
                  try clear c86b1
                  try clear hcz66_0
                  try clear hcz66_1
                  try clear hfz66_0
                  try clear hfz66_1
                  try clear hx521_0
                  try clear hx521_1
                  try clear hx522_0
                  try clear hx522_1
                  try clear hx533_0
                  try clear hx533_1
                  try clear hx534_0
                  try clear hx534_1
                  try clear hx536_0
                  try clear hx536_1
                  try clear hx537_0
                  try clear hx537_1
                  try clear hx538_0
                  try clear hx538_1
                  try clear hx539_0
                  try clear hx539_1
                  try clear p2
                  try clear p5
                  try clear p52
                  try clear p521
                  try clear p522
                  try clear p53
                  try clear p533
                  try clear p534
                  try clear p536
                  try clear p537
                  try clear p538
                  try clear p539
                  try clear p6
                  try clear p64
                  try clear q5
                  try clear q52
                  try clear q521
                  try clear q522
                  try clear q53
                  try clear q533
                  try clear q534
                  try clear q536
                  try clear q537
                  try clear q538
                  try clear q539
                  obtain ⟨kq, x161_80, rfl, HA, HJ80, HO_7, HO_11, HO_509000, HO_509001, BK508, HB⟩ := hcut
                  cases kq with
                  | zero => exact absurd HA.out (by simp [conciergelaw20_OrderTotal.j8])
                  | succ kj80 =>
                   have H := HA.out
                   clear HA
                   simp only [conciergelaw20_OrderTotal.j8] at H
                   by_cases c89 : x161_80 = true
                   ·subst c89
                    rw [if_pos rfl] at H
                    by_cases c90 : 0 ≤ x14_4
                    ·rw [if_pos c90] at H
                     have c90b0 : decide (0 ≤ x14_4) = true := decide_eq_true c90
                     clear c90
                     by_cases c91 : x14_4 < (x7_7.length : Int)
                     ·rw [if_pos c91] at H
                      have c91b0 : decide (x14_4 < (x7_7.length : Int)) = true := decide_eq_true c91
                      clear c91
                      by_cases c92 : 0 ≤ x12_3
                      ·rw [if_pos c92] at H
                       have c92b0 : decide (0 ≤ x12_3) = true := decide_eq_true c92
                       clear c92
                       by_cases c93 : x12_3 < (t530.length : Int)
                       ·rw [if_pos c93] at H
                        have c93b0 : decide (x12_3 < (t530.length : Int)) = true := decide_eq_true c93
                        clear c93
                        by_cases c94 : ((rd_T34 x7_7 x14_4).f0).toList = ((rd_T34 t530 x12_3).f0).toList
                        ·rw [if_pos c94] at H
                         have c94b0 : (((rd_T34 x7_7 x14_4).f0).toList == ((rd_T34 t530 x12_3).f0).toList) = true := beq_iff_eq.mpr c94
                         have c94b1 : (((rd_T34 x7_7 x14_4).f0).toList != ((rd_T34 t530 x12_3).f0).toList) = false := bne_eq_false_iff_eq.mpr c94
                         clear c94
                         by_cases c95 : ((rd_T34 x7_7 x14_4).f1).toList = ((rd_T34 t530 x12_3).f1).toList
                         ·rw [if_pos c95] at H
                          have c95b0 : (((rd_T34 x7_7 x14_4).f1).toList == ((rd_T34 t530 x12_3).f1).toList) = true := beq_iff_eq.mpr c95
                          have c95b1 : (((rd_T34 x7_7 x14_4).f1).toList != ((rd_T34 t530 x12_3).f1).toList) = false := bne_eq_false_iff_eq.mpr c95
                          clear c95
                          have H' := Aside0.mk H
                          clear H
                          try go_wp2
                          have n0_ := Aside0.mk (Kd.R_drew HO_7.out)
                          have n1_ := Aside0.mk (Kd.R_drew HO_11.out)
                          have n2_ := Aside0.mk (Kd.R_drew HO_509000.out)
                          have n3_ := Aside0.mk (Kd.R_drew HO_509001.out)
                          have n4_ := Aside0.mk (blk_drew BK508.out)
                          have n5_ := Aside0.mk (below_drew1 HB.out)
                          clear HO_7
                          clear HO_11
                          clear HO_509000
                          clear HO_509001
                          clear BK508
                          clear HB
                          have HO_7 := n0_
                          have HO_11 := n1_
                          have HO_509000 := n2_
                          have HO_509001 := n3_
                          have BK508 := n4_
                          have HB := n5_
                          clear n0_ n1_ n2_ n3_ n4_ n5_
                          have p540 : 0 ≤ (x14_4 : Int) := of_decide_eq_true (by first | (with_reducible assumption) | assumption)
                          have q540 : x14_4 < (x7_7.length : Int) := of_decide_eq_true (by first | (with_reducible assumption) | assumption)
                          obtain ⟨ad540, e540, hx540_0, hx540_1⟩ := at_T34 (Kd.R_reads' HO_7.out).2.2 x14_4 p540 q540
                          cases e540
                          replace p540 := eq_true p540
                          replace q540 := eq_true q540
                          have p541 : 0 ≤ (x12_3 : Int) := of_decide_eq_true (by first | (with_reducible assumption) | assumption)
                          have q541 : x12_3 < (t530.length : Int) := of_decide_eq_true (by first | (with_reducible assumption) | assumption)
                          obtain ⟨ad541, e541, hx541_0, hx541_1⟩ := at_T34 (Kd.R_reads' HO_11.out).2.2 x12_3 p541 q541
                          cases e541
                          replace p541 := eq_true p541
                          replace q541 := eq_true q541
                          have p542 : 0 ≤ (x14_4 : Int) := of_decide_eq_true (by first | (with_reducible assumption) | assumption)
                          have q542 : x14_4 < (x7_7.length : Int) := of_decide_eq_true (by first | (with_reducible assumption) | assumption)
                          obtain ⟨ad542, e542, hx542_0, hx542_1⟩ := at_T34 (Kd.R_reads' HO_7.out).2.2 x14_4 p542 q542
                          obtain rfl : ad540 = ad542 := (by injection e542)
                          replace p542 := eq_true p542
                          replace q542 := eq_true q542
                          have p543 : 0 ≤ (x12_3 : Int) := of_decide_eq_true (by first | (with_reducible assumption) | assumption)
                          have q543 : x12_3 < (t530.length : Int) := of_decide_eq_true (by first | (with_reducible assumption) | assumption)
                          obtain ⟨ad543, e543, hx543_0, hx543_1⟩ := at_T34 (Kd.R_reads' HO_11.out).2.2 x12_3 p543 q543
                          obtain rfl : ad541 = ad543 := (by injection e543)
                          replace p543 := eq_true p543
                          replace q543 := eq_true q543
                          refine start_ (n := 24) (S := fun w' => w'.cell? (ad540.add ((x14_4).toNat * 2)) = some (.string ((rd_T34 x7_7 x14_4).f0)) ∧ w'.cell? ⟨(ad540.add ((x14_4).toNat * 2)).block, (ad540.add ((x14_4).toNat * 2)).off + 1, none⟩ = some (.string ((rd_T34 x7_7 x14_4).f1)) ∧ w'.cell? (ad541.add ((x12_3).toNat * 2)) = some (.string ((rd_T34 t530 x12_3).f0)) ∧ w'.cell? ⟨(ad541.add ((x12_3).toNat * 2)).block, (ad541.add ((x12_3).toNat * 2)).off + 1, none⟩ = some (.string ((rd_T34 t530 x12_3).f1)) ∧ w'.cell? (ad540.add ((x14_4).toNat * 2)) = some (.string ((rd_T34 x7_7 x14_4).f0)) ∧ w'.cell? ⟨(ad540.add ((x14_4).toNat * 2)).block, (ad540.add ((x14_4).toNat * 2)).off + 1, none⟩ = some (.string ((rd_T34 x7_7 x14_4).f1)) ∧ w'.cell? (ad541.add ((x12_3).toNat * 2)) = some (.string ((rd_T34 t530 x12_3).f0)) ∧ w'.cell? ⟨(ad541.add ((x12_3).toNat * 2)).block, (ad541.add ((x12_3).toNat * 2)).off + 1, none⟩ = some (.string ((rd_T34 t530 x12_3).f1))) (ds := []) #[false, false, false, false, false, false, false, false, false, false, false, false, false, false, false, false, false, false, false, false, false, false, false, false] (by kernel_rfl) rfl rfl ⟨hx540_0, hx540_1, hx541_0, hx541_1, hx542_0, hx542_1, hx543_0, hx543_1⟩ (fun hHeld => ?_); refine with_tabW conciergelaw20_OrderTotal.tab35 conciergelaw20_OrderTotal.bits35 (fun HT_ HW_ => ?_)
                          generalize wc.drew = w96 at HO_7 HO_11 HO_509000 HO_509001 BK508 HB hx540_0 hx540_1 hx541_0 hx541_1 hx542_0 hx542_1 hx543_0 hx543_1 hHeld ⊢
                          refine pz_ 0 164 (h := ?_)
                          refine pz_ 1 165 (h := ?_)
                          refine pz_ 2 166 (h := ?_)
                          refine pz_ 3 167 (h := ?_)
                          refine pz_ 5 169 (h := ?_)
                          refine pz_ 6 170 (h := ?_)
                          refine pz_ 7 171 (h := ?_)
                          refine pz_ 8 172 (h := ?_)
                          refine tz_ 4 168 (h := ?_)
                          refine tz_ 9 173 (h := ?_)
                          refine pz_ 10 174 (h := ?_)
                          refine pz_ 11 175 (h := ?_)
                          refine pz_ 12 176 (h := ?_)
                          refine pz_ 13 177 (h := ?_)
                          refine pz_ 14 178 (h := ?_)
                          refine pz_ 15 179 (h := ?_)
                          refine pz_ 17 181 (h := ?_)
                          refine pz_ 18 182 (h := ?_)
                          refine pz_ 19 183 (h := ?_)
                          refine pz_ 20 184 (h := ?_)
                          refine tz_ 16 180 (h := ?_)
                          refine tz_ 21 185 (h := ?_)
                          refine pz_ 22 186 (h := ?_)
                          refine pz_ 23 187 (h := ?_)
                          refine done_ (done_of HT_.out (by kernel_rfl)) ?_
                          try go_wp2
                          go_roundg kj80
                          case measure => have := HJ7.out; have := HK2.out; have := HK3.out; have := HK4.out; have := HJ70.out; have := HJ80.out; omega
                          case rel => exact ⟨(wrap64 ((wrap64 (x13_4 + 1)) - 1)), (wrap64 (x14_4 + 1)), s1_, s1_, H', ⟨by have := HJ7.out; have := HK2.out; have := HK3.out; have := HK4.out; have := HJ70.out; have := HJ80.out; omega⟩, ⟨(fA0 HO_7)⟩, ⟨(fA0 HO_11)⟩, ⟨(fA0 HO_509000)⟩, ⟨(fA0 HO_509001)⟩, ⟨(fA1 BK508)⟩, ⟨(fB1 GE508)⟩⟩
                         ·rw [if_neg c95] at H
                          have c95b0 : (((rd_T34 x7_7 x14_4).f1).toList == ((rd_T34 t530 x12_3).f1).toList) = false := beq_eq_false_iff_ne.mpr c95
                          have c95b1 : (((rd_T34 x7_7 x14_4).f1).toList != ((rd_T34 t530 x12_3).f1).toList) = true := bne_iff_ne.mpr c95
                          have H' := Aside0.mk H
                          clear H
                          try go_wp2
                          have n0_ := Aside0.mk (Kd.R_drew HO_7.out)
                          have n1_ := Aside0.mk (Kd.R_drew HO_11.out)
                          have n2_ := Aside0.mk (Kd.R_drew HO_509000.out)
                          have n3_ := Aside0.mk (Kd.R_drew HO_509001.out)
                          have n4_ := Aside0.mk (blk_drew BK508.out)
                          have n5_ := Aside0.mk (below_drew1 HB.out)
                          clear HO_7
                          clear HO_11
                          clear HO_509000
                          clear HO_509001
                          clear BK508
                          clear HB
                          have HO_7 := n0_
                          have HO_11 := n1_
                          have HO_509000 := n2_
                          have HO_509001 := n3_
                          have BK508 := n4_
                          have HB := n5_
                          clear n0_ n1_ n2_ n3_ n4_ n5_
                          have p540 : 0 ≤ (x14_4 : Int) := of_decide_eq_true (by first | (with_reducible assumption) | assumption)
                          have q540 : x14_4 < (x7_7.length : Int) := of_decide_eq_true (by first | (with_reducible assumption) | assumption)
                          obtain ⟨ad540, e540, hx540_0, hx540_1⟩ := at_T34 (Kd.R_reads' HO_7.out).2.2 x14_4 p540 q540
                          cases e540
                          replace p540 := eq_true p540
                          replace q540 := eq_true q540
                          have p541 : 0 ≤ (x12_3 : Int) := of_decide_eq_true (by first | (with_reducible assumption) | assumption)
                          have q541 : x12_3 < (t530.length : Int) := of_decide_eq_true (by first | (with_reducible assumption) | assumption)
                          obtain ⟨ad541, e541, hx541_0, hx541_1⟩ := at_T34 (Kd.R_reads' HO_11.out).2.2 x12_3 p541 q541
                          cases e541
                          replace p541 := eq_true p541
                          replace q541 := eq_true q541
                          have p542 : 0 ≤ (x14_4 : Int) := of_decide_eq_true (by first | (with_reducible assumption) | assumption)
                          have q542 : x14_4 < (x7_7.length : Int) := of_decide_eq_true (by first | (with_reducible assumption) | assumption)
                          obtain ⟨ad542, e542, hx542_0, hx542_1⟩ := at_T34 (Kd.R_reads' HO_7.out).2.2 x14_4 p542 q542
                          obtain rfl : ad540 = ad542 := (by injection e542)
                          replace p542 := eq_true p542
                          replace q542 := eq_true q542
                          have p543 : 0 ≤ (x12_3 : Int) := of_decide_eq_true (by first | (with_reducible assumption) | assumption)
                          have q543 : x12_3 < (t530.length : Int) := of_decide_eq_true (by first | (with_reducible assumption) | assumption)
                          obtain ⟨ad543, e543, hx543_0, hx543_1⟩ := at_T34 (Kd.R_reads' HO_11.out).2.2 x12_3 p543 q543
                          obtain rfl : ad541 = ad543 := (by injection e543)
                          replace p543 := eq_true p543
                          replace q543 := eq_true q543
                          refine start_ (n := 24) (S := fun w' => w'.cell? (ad540.add ((x14_4).toNat * 2)) = some (.string ((rd_T34 x7_7 x14_4).f0)) ∧ w'.cell? ⟨(ad540.add ((x14_4).toNat * 2)).block, (ad540.add ((x14_4).toNat * 2)).off + 1, none⟩ = some (.string ((rd_T34 x7_7 x14_4).f1)) ∧ w'.cell? (ad541.add ((x12_3).toNat * 2)) = some (.string ((rd_T34 t530 x12_3).f0)) ∧ w'.cell? ⟨(ad541.add ((x12_3).toNat * 2)).block, (ad541.add ((x12_3).toNat * 2)).off + 1, none⟩ = some (.string ((rd_T34 t530 x12_3).f1)) ∧ w'.cell? (ad540.add ((x14_4).toNat * 2)) = some (.string ((rd_T34 x7_7 x14_4).f0)) ∧ w'.cell? ⟨(ad540.add ((x14_4).toNat * 2)).block, (ad540.add ((x14_4).toNat * 2)).off + 1, none⟩ = some (.string ((rd_T34 x7_7 x14_4).f1)) ∧ w'.cell? (ad541.add ((x12_3).toNat * 2)) = some (.string ((rd_T34 t530 x12_3).f0)) ∧ w'.cell? ⟨(ad541.add ((x12_3).toNat * 2)).block, (ad541.add ((x12_3).toNat * 2)).off + 1, none⟩ = some (.string ((rd_T34 t530 x12_3).f1))) (ds := []) #[false, false, false, false, false, false, false, false, false, false, false, false, false, false, false, false, false, false, false, false, false, false, false, false] (by kernel_rfl) rfl rfl ⟨hx540_0, hx540_1, hx541_0, hx541_1, hx542_0, hx542_1, hx543_0, hx543_1⟩ (fun hHeld => ?_); refine with_tabW conciergelaw20_OrderTotal.tab35 conciergelaw20_OrderTotal.bits35 (fun HT_ HW_ => ?_)
                          generalize wc.drew = w97 at HO_7 HO_11 HO_509000 HO_509001 BK508 HB hx540_0 hx540_1 hx541_0 hx541_1 hx542_0 hx542_1 hx543_0 hx543_1 hHeld ⊢
                          refine pz_ 0 164 (h := ?_)
                          refine pz_ 1 165 (h := ?_)
                          refine pz_ 2 166 (h := ?_)
                          refine pz_ 3 167 (h := ?_)
                          refine pz_ 5 169 (h := ?_)
                          refine pz_ 6 170 (h := ?_)
                          refine pz_ 7 171 (h := ?_)
                          refine pz_ 8 172 (h := ?_)
                          refine tz_ 4 168 (h := ?_)
                          refine tz_ 9 173 (h := ?_)
                          refine pz_ 10 174 (h := ?_)
                          refine pz_ 11 175 (h := ?_)
                          refine pz_ 12 176 (h := ?_)
                          refine pz_ 13 177 (h := ?_)
                          refine pz_ 14 178 (h := ?_)
                          refine pz_ 15 179 (h := ?_)
                          refine pz_ 17 181 (h := ?_)
                          refine pz_ 18 182 (h := ?_)
                          refine pz_ 19 183 (h := ?_)
                          refine pz_ 20 184 (h := ?_)
                          refine tz_ 16 180 (h := ?_)
                          refine tz_ 21 185 (h := ?_)
                          refine pz_ 22 186 (h := ?_)
                          refine pz_ 23 187 (h := ?_)
                          refine done_ (done_of HT_.out (by kernel_rfl)) ?_
                          try go_wp2
                          go_roundg kj80
                          case measure => have := HJ7.out; have := HK2.out; have := HK3.out; have := HK4.out; have := HJ70.out; have := HJ80.out; omega
                          case rel => exact ⟨(wrap64 (x13_4 + 1)), (wrap64 (x14_4 + 1)), s1_, s1_, H', ⟨by have := HJ7.out; have := HK2.out; have := HK3.out; have := HK4.out; have := HJ70.out; have := HJ80.out; omega⟩, ⟨(fA0 HO_7)⟩, ⟨(fA0 HO_11)⟩, ⟨(fA0 HO_509000)⟩, ⟨(fA0 HO_509001)⟩, ⟨(fA1 BK508)⟩, ⟨(fB1 GE508)⟩⟩
                        ·rw [if_neg c94] at H
                         have c94b0 : (((rd_T34 x7_7 x14_4).f0).toList == ((rd_T34 t530 x12_3).f0).toList) = false := beq_eq_false_iff_ne.mpr c94
                         have c94b1 : (((rd_T34 x7_7 x14_4).f0).toList != ((rd_T34 t530 x12_3).f0).toList) = true := bne_iff_ne.mpr c94
                         have H' := Aside0.mk H
                         clear H
                         try go_wp2
                         have n0_ := Aside0.mk (Kd.R_drew HO_7.out)
                         have n1_ := Aside0.mk (Kd.R_drew HO_11.out)
                         have n2_ := Aside0.mk (Kd.R_drew HO_509000.out)
                         have n3_ := Aside0.mk (Kd.R_drew HO_509001.out)
                         have n4_ := Aside0.mk (blk_drew BK508.out)
                         have n5_ := Aside0.mk (below_drew1 HB.out)
                         clear HO_7
                         clear HO_11
                         clear HO_509000
                         clear HO_509001
                         clear BK508
                         clear HB
                         have HO_7 := n0_
                         have HO_11 := n1_
                         have HO_509000 := n2_
                         have HO_509001 := n3_
                         have BK508 := n4_
                         have HB := n5_
                         clear n0_ n1_ n2_ n3_ n4_ n5_
                         have p540 : 0 ≤ (x14_4 : Int) := of_decide_eq_true (by first | (with_reducible assumption) | assumption)
                         have q540 : x14_4 < (x7_7.length : Int) := of_decide_eq_true (by first | (with_reducible assumption) | assumption)
                         obtain ⟨ad540, e540, hx540_0, hx540_1⟩ := at_T34 (Kd.R_reads' HO_7.out).2.2 x14_4 p540 q540
                         cases e540
                         replace p540 := eq_true p540
                         replace q540 := eq_true q540
                         have p541 : 0 ≤ (x12_3 : Int) := of_decide_eq_true (by first | (with_reducible assumption) | assumption)
                         have q541 : x12_3 < (t530.length : Int) := of_decide_eq_true (by first | (with_reducible assumption) | assumption)
                         obtain ⟨ad541, e541, hx541_0, hx541_1⟩ := at_T34 (Kd.R_reads' HO_11.out).2.2 x12_3 p541 q541
                         cases e541
                         replace p541 := eq_true p541
                         replace q541 := eq_true q541
                         refine start_ (n := 24) (S := fun w' => w'.cell? (ad540.add ((x14_4).toNat * 2)) = some (.string ((rd_T34 x7_7 x14_4).f0)) ∧ w'.cell? ⟨(ad540.add ((x14_4).toNat * 2)).block, (ad540.add ((x14_4).toNat * 2)).off + 1, none⟩ = some (.string ((rd_T34 x7_7 x14_4).f1)) ∧ w'.cell? (ad541.add ((x12_3).toNat * 2)) = some (.string ((rd_T34 t530 x12_3).f0)) ∧ w'.cell? ⟨(ad541.add ((x12_3).toNat * 2)).block, (ad541.add ((x12_3).toNat * 2)).off + 1, none⟩ = some (.string ((rd_T34 t530 x12_3).f1))) (ds := []) #[false, false, false, false, false, false, false, false, false, false, false, false, false, false, false, false, false, false, false, false, false, false, false, false] (by kernel_rfl) rfl rfl ⟨hx540_0, hx540_1, hx541_0, hx541_1⟩ (fun hHeld => ?_); refine with_tabW conciergelaw20_OrderTotal.tab35 conciergelaw20_OrderTotal.bits35 (fun HT_ HW_ => ?_)
                         generalize wc.drew = w98 at HO_7 HO_11 HO_509000 HO_509001 BK508 HB hx540_0 hx540_1 hx541_0 hx541_1 hHeld ⊢
                         refine pz_ 0 164 (h := ?_)
                         refine pz_ 1 165 (h := ?_)
                         refine pz_ 2 166 (h := ?_)
                         refine pz_ 3 167 (h := ?_)
                         refine pz_ 5 169 (h := ?_)
                         refine pz_ 6 170 (h := ?_)
                         refine pz_ 7 171 (h := ?_)
                         refine pz_ 8 172 (h := ?_)
                         refine tz_ 4 168 (h := ?_)
                         refine tz_ 9 173 (h := ?_)
                         refine pz_ 10 174 (h := ?_)
                         refine pz_ 11 175 (h := ?_)
                         refine py_ 12 176 (h := ?_)
                         refine py_ 13 177 (h := ?_)
                         refine py_ 14 178 (h := ?_)
                         refine py_ 15 179 (h := ?_)
                         refine py_ 16 180 (h := ?_)
                         refine py_ 17 181 (h := ?_)
                         refine py_ 18 182 (h := ?_)
                         refine py_ 19 183 (h := ?_)
                         refine py_ 20 184 (h := ?_)
                         refine py_ 21 185 (h := ?_)
                         refine py_ 22 186 (h := ?_)
                         refine pz_ 23 187 (h := ?_)
                         refine done_ (done_of HT_.out (by kernel_rfl)) ?_
                         try go_wp2
                         go_roundg kj80
                         case measure => have := HJ7.out; have := HK2.out; have := HK3.out; have := HK4.out; have := HJ70.out; have := HJ80.out; omega
                         case rel => exact ⟨(wrap64 (x13_4 + 1)), (wrap64 (x14_4 + 1)), s1_, s1_, H', ⟨by have := HJ7.out; have := HK2.out; have := HK3.out; have := HK4.out; have := HJ70.out; have := HJ80.out; omega⟩, ⟨(fA0 HO_7)⟩, ⟨(fA0 HO_11)⟩, ⟨(fA0 HO_509000)⟩, ⟨(fA0 HO_509001)⟩, ⟨(fA1 BK508)⟩, ⟨(fB1 GE508)⟩⟩
                       ·rw [if_neg c93] at H
                        exact absurd H (by simp)
                      ·rw [if_neg c92] at H
                       exact absurd H (by simp)
                     ·rw [if_neg c91] at H
                      exact absurd H (by simp)
                    ·rw [if_neg c90] at H
                     exact absurd H (by simp)
                   ·replace c89 := Bool.eq_false_iff.mpr c89
                    subst c89
                    rw [if_neg (show ¬ (false = true) by decide)] at H
                    by_cases c99 : 0 ≤ x14_4
                    ·rw [if_pos c99] at H
                     have c99b0 : decide (0 ≤ x14_4) = true := decide_eq_true c99
                     clear c99
                     by_cases c100 : x14_4 < (x7_7.length : Int)
                     ·rw [if_pos c100] at H
                      have c100b0 : decide (x14_4 < (x7_7.length : Int)) = true := decide_eq_true c100
                      clear c100
                      by_cases c101 : 0 ≤ x12_3
                      ·rw [if_pos c101] at H
                       have c101b0 : decide (0 ≤ x12_3) = true := decide_eq_true c101
                       clear c101
                       by_cases c102 : x12_3 < (t530.length : Int)
                       ·rw [if_pos c102] at H
                        have c102b0 : decide (x12_3 < (t530.length : Int)) = true := decide_eq_true c102
                        clear c102
                        by_cases c103 : ((rd_T34 x7_7 x14_4).f0).toList = ((rd_T34 t530 x12_3).f0).toList
                        ·rw [if_pos c103] at H
                         have c103b0 : (((rd_T34 x7_7 x14_4).f0).toList == ((rd_T34 t530 x12_3).f0).toList) = true := beq_iff_eq.mpr c103
                         have c103b1 : (((rd_T34 x7_7 x14_4).f0).toList != ((rd_T34 t530 x12_3).f0).toList) = false := bne_eq_false_iff_eq.mpr c103
                         clear c103
                         by_cases c104 : ((rd_T34 x7_7 x14_4).f1).toList = ((rd_T34 t530 x12_3).f1).toList
                         ·rw [if_pos c104] at H
                          have c104b0 : (((rd_T34 x7_7 x14_4).f1).toList == ((rd_T34 t530 x12_3).f1).toList) = true := beq_iff_eq.mpr c104
                          have c104b1 : (((rd_T34 x7_7 x14_4).f1).toList != ((rd_T34 t530 x12_3).f1).toList) = false := bne_eq_false_iff_eq.mpr c104
                          clear c104
                          have H' := Aside0.mk H
                          clear H
                          try go_wp2
                          have n0_ := Aside0.mk (Kd.R_drew HO_7.out)
                          have n1_ := Aside0.mk (Kd.R_drew HO_11.out)
                          have n2_ := Aside0.mk (Kd.R_drew HO_509000.out)
                          have n3_ := Aside0.mk (Kd.R_drew HO_509001.out)
                          have n4_ := Aside0.mk (blk_drew BK508.out)
                          have n5_ := Aside0.mk (below_drew1 HB.out)
                          clear HO_7
                          clear HO_11
                          clear HO_509000
                          clear HO_509001
                          clear BK508
                          clear HB
                          have HO_7 := n0_
                          have HO_11 := n1_
                          have HO_509000 := n2_
                          have HO_509001 := n3_
                          have BK508 := n4_
                          have HB := n5_
                          clear n0_ n1_ n2_ n3_ n4_ n5_
                          have p544 : 0 ≤ (x14_4 : Int) := of_decide_eq_true (by first | (with_reducible assumption) | assumption)
                          have q544 : x14_4 < (x7_7.length : Int) := of_decide_eq_true (by first | (with_reducible assumption) | assumption)
                          obtain ⟨ad544, e544, hx544_0, hx544_1⟩ := at_T34 (Kd.R_reads' HO_7.out).2.2 x14_4 p544 q544
                          cases e544
                          replace p544 := eq_true p544
                          replace q544 := eq_true q544
                          have p545 : 0 ≤ (x12_3 : Int) := of_decide_eq_true (by first | (with_reducible assumption) | assumption)
                          have q545 : x12_3 < (t530.length : Int) := of_decide_eq_true (by first | (with_reducible assumption) | assumption)
                          obtain ⟨ad545, e545, hx545_0, hx545_1⟩ := at_T34 (Kd.R_reads' HO_11.out).2.2 x12_3 p545 q545
                          cases e545
                          replace p545 := eq_true p545
                          replace q545 := eq_true q545
                          have p546 : 0 ≤ (x14_4 : Int) := of_decide_eq_true (by first | (with_reducible assumption) | assumption)
                          have q546 : x14_4 < (x7_7.length : Int) := of_decide_eq_true (by first | (with_reducible assumption) | assumption)
                          obtain ⟨ad546, e546, hx546_0, hx546_1⟩ := at_T34 (Kd.R_reads' HO_7.out).2.2 x14_4 p546 q546
                          obtain rfl : ad544 = ad546 := (by injection e546)
                          replace p546 := eq_true p546
                          replace q546 := eq_true q546
                          have p547 : 0 ≤ (x12_3 : Int) := of_decide_eq_true (by first | (with_reducible assumption) | assumption)
                          have q547 : x12_3 < (t530.length : Int) := of_decide_eq_true (by first | (with_reducible assumption) | assumption)
                          obtain ⟨ad547, e547, hx547_0, hx547_1⟩ := at_T34 (Kd.R_reads' HO_11.out).2.2 x12_3 p547 q547
                          obtain rfl : ad545 = ad547 := (by injection e547)
                          replace p547 := eq_true p547
                          replace q547 := eq_true q547
                          refine start_ (n := 24) (S := fun w' => w'.cell? (ad544.add ((x14_4).toNat * 2)) = some (.string ((rd_T34 x7_7 x14_4).f0)) ∧ w'.cell? ⟨(ad544.add ((x14_4).toNat * 2)).block, (ad544.add ((x14_4).toNat * 2)).off + 1, none⟩ = some (.string ((rd_T34 x7_7 x14_4).f1)) ∧ w'.cell? (ad545.add ((x12_3).toNat * 2)) = some (.string ((rd_T34 t530 x12_3).f0)) ∧ w'.cell? ⟨(ad545.add ((x12_3).toNat * 2)).block, (ad545.add ((x12_3).toNat * 2)).off + 1, none⟩ = some (.string ((rd_T34 t530 x12_3).f1)) ∧ w'.cell? (ad544.add ((x14_4).toNat * 2)) = some (.string ((rd_T34 x7_7 x14_4).f0)) ∧ w'.cell? ⟨(ad544.add ((x14_4).toNat * 2)).block, (ad544.add ((x14_4).toNat * 2)).off + 1, none⟩ = some (.string ((rd_T34 x7_7 x14_4).f1)) ∧ w'.cell? (ad545.add ((x12_3).toNat * 2)) = some (.string ((rd_T34 t530 x12_3).f0)) ∧ w'.cell? ⟨(ad545.add ((x12_3).toNat * 2)).block, (ad545.add ((x12_3).toNat * 2)).off + 1, none⟩ = some (.string ((rd_T34 t530 x12_3).f1))) (ds := []) #[false, false, false, false, false, false, false, false, false, false, false, false, false, false, false, false, false, false, false, false, false, false, false, false] (by kernel_rfl) rfl rfl ⟨hx544_0, hx544_1, hx545_0, hx545_1, hx546_0, hx546_1, hx547_0, hx547_1⟩ (fun hHeld => ?_); refine with_tabW conciergelaw20_OrderTotal.tab35 conciergelaw20_OrderTotal.bits35 (fun HT_ HW_ => ?_)
                          generalize wc.drew = w105 at HO_7 HO_11 HO_509000 HO_509001 BK508 HB hx544_0 hx544_1 hx545_0 hx545_1 hx546_0 hx546_1 hx547_0 hx547_1 hHeld ⊢
                          refine pz_ 0 164 (h := ?_)
                          refine pz_ 1 165 (h := ?_)
                          refine pz_ 2 166 (h := ?_)
                          refine pz_ 3 167 (h := ?_)
                          refine pz_ 5 169 (h := ?_)
                          refine pz_ 6 170 (h := ?_)
                          refine pz_ 7 171 (h := ?_)
                          refine pz_ 8 172 (h := ?_)
                          refine tz_ 4 168 (h := ?_)
                          refine tz_ 9 173 (h := ?_)
                          refine pz_ 10 174 (h := ?_)
                          refine pz_ 11 175 (h := ?_)
                          refine pz_ 12 176 (h := ?_)
                          refine pz_ 13 177 (h := ?_)
                          refine pz_ 14 178 (h := ?_)
                          refine pz_ 15 179 (h := ?_)
                          refine pz_ 17 181 (h := ?_)
                          refine pz_ 18 182 (h := ?_)
                          refine pz_ 19 183 (h := ?_)
                          refine pz_ 20 184 (h := ?_)
                          refine tz_ 16 180 (h := ?_)
                          refine tz_ 21 185 (h := ?_)
                          refine pz_ 22 186 (h := ?_)
                          refine pz_ 23 187 (h := ?_)
                          refine done_ (done_of HT_.out (by kernel_rfl)) ?_
                          try go_wp2
                          go_roundg kj80
                          case measure => have := HJ7.out; have := HK2.out; have := HK3.out; have := HK4.out; have := HJ70.out; have := HJ80.out; omega
                          case rel => exact ⟨(wrap64 (x13_4 - 1)), (wrap64 (x14_4 + 1)), s1_, s1_, H', ⟨by have := HJ7.out; have := HK2.out; have := HK3.out; have := HK4.out; have := HJ70.out; have := HJ80.out; omega⟩, ⟨(fA0 HO_7)⟩, ⟨(fA0 HO_11)⟩, ⟨(fA0 HO_509000)⟩, ⟨(fA0 HO_509001)⟩, ⟨(fA1 BK508)⟩, ⟨(fB1 GE508)⟩⟩
                         ·rw [if_neg c104] at H
                          have c104b0 : (((rd_T34 x7_7 x14_4).f1).toList == ((rd_T34 t530 x12_3).f1).toList) = false := beq_eq_false_iff_ne.mpr c104
                          have c104b1 : (((rd_T34 x7_7 x14_4).f1).toList != ((rd_T34 t530 x12_3).f1).toList) = true := bne_iff_ne.mpr c104
                          have H' := Aside0.mk H
                          clear H
                          try go_wp2
                          have n0_ := Aside0.mk (Kd.R_drew HO_7.out)
                          have n1_ := Aside0.mk (Kd.R_drew HO_11.out)
                          have n2_ := Aside0.mk (Kd.R_drew HO_509000.out)
                          have n3_ := Aside0.mk (Kd.R_drew HO_509001.out)
                          have n4_ := Aside0.mk (blk_drew BK508.out)
                          have n5_ := Aside0.mk (below_drew1 HB.out)
                          clear HO_7
                          clear HO_11
                          clear HO_509000
                          clear HO_509001
                          clear BK508
                          clear HB
                          have HO_7 := n0_
                          have HO_11 := n1_
                          have HO_509000 := n2_
                          have HO_509001 := n3_
                          have BK508 := n4_
                          have HB := n5_
                          clear n0_ n1_ n2_ n3_ n4_ n5_
                          have p544 : 0 ≤ (x14_4 : Int) := of_decide_eq_true (by first | (with_reducible assumption) | assumption)
                          have q544 : x14_4 < (x7_7.length : Int) := of_decide_eq_true (by first | (with_reducible assumption) | assumption)
                          obtain ⟨ad544, e544, hx544_0, hx544_1⟩ := at_T34 (Kd.R_reads' HO_7.out).2.2 x14_4 p544 q544
                          cases e544
                          replace p544 := eq_true p544
                          replace q544 := eq_true q544
                          have p545 : 0 ≤ (x12_3 : Int) := of_decide_eq_true (by first | (with_reducible assumption) | assumption)
                          have q545 : x12_3 < (t530.length : Int) := of_decide_eq_true (by first | (with_reducible assumption) | assumption)
                          obtain ⟨ad545, e545, hx545_0, hx545_1⟩ := at_T34 (Kd.R_reads' HO_11.out).2.2 x12_3 p545 q545
                          cases e545
                          replace p545 := eq_true p545
                          replace q545 := eq_true q545
                          have p546 : 0 ≤ (x14_4 : Int) := of_decide_eq_true (by first | (with_reducible assumption) | assumption)
                          have q546 : x14_4 < (x7_7.length : Int) := of_decide_eq_true (by first | (with_reducible assumption) | assumption)
                          obtain ⟨ad546, e546, hx546_0, hx546_1⟩ := at_T34 (Kd.R_reads' HO_7.out).2.2 x14_4 p546 q546
                          obtain rfl : ad544 = ad546 := (by injection e546)
                          replace p546 := eq_true p546
                          replace q546 := eq_true q546
                          have p547 : 0 ≤ (x12_3 : Int) := of_decide_eq_true (by first | (with_reducible assumption) | assumption)
                          have q547 : x12_3 < (t530.length : Int) := of_decide_eq_true (by first | (with_reducible assumption) | assumption)
                          obtain ⟨ad547, e547, hx547_0, hx547_1⟩ := at_T34 (Kd.R_reads' HO_11.out).2.2 x12_3 p547 q547
                          obtain rfl : ad545 = ad547 := (by injection e547)
                          replace p547 := eq_true p547
                          replace q547 := eq_true q547
                          refine start_ (n := 24) (S := fun w' => w'.cell? (ad544.add ((x14_4).toNat * 2)) = some (.string ((rd_T34 x7_7 x14_4).f0)) ∧ w'.cell? ⟨(ad544.add ((x14_4).toNat * 2)).block, (ad544.add ((x14_4).toNat * 2)).off + 1, none⟩ = some (.string ((rd_T34 x7_7 x14_4).f1)) ∧ w'.cell? (ad545.add ((x12_3).toNat * 2)) = some (.string ((rd_T34 t530 x12_3).f0)) ∧ w'.cell? ⟨(ad545.add ((x12_3).toNat * 2)).block, (ad545.add ((x12_3).toNat * 2)).off + 1, none⟩ = some (.string ((rd_T34 t530 x12_3).f1)) ∧ w'.cell? (ad544.add ((x14_4).toNat * 2)) = some (.string ((rd_T34 x7_7 x14_4).f0)) ∧ w'.cell? ⟨(ad544.add ((x14_4).toNat * 2)).block, (ad544.add ((x14_4).toNat * 2)).off + 1, none⟩ = some (.string ((rd_T34 x7_7 x14_4).f1)) ∧ w'.cell? (ad545.add ((x12_3).toNat * 2)) = some (.string ((rd_T34 t530 x12_3).f0)) ∧ w'.cell? ⟨(ad545.add ((x12_3).toNat * 2)).block, (ad545.add ((x12_3).toNat * 2)).off + 1, none⟩ = some (.string ((rd_T34 t530 x12_3).f1))) (ds := []) #[false, false, false, false, false, false, false, false, false, false, false, false, false, false, false, false, false, false, false, false, false, false, false, false] (by kernel_rfl) rfl rfl ⟨hx544_0, hx544_1, hx545_0, hx545_1, hx546_0, hx546_1, hx547_0, hx547_1⟩ (fun hHeld => ?_); refine with_tabW conciergelaw20_OrderTotal.tab35 conciergelaw20_OrderTotal.bits35 (fun HT_ HW_ => ?_)
                          generalize wc.drew = w106 at HO_7 HO_11 HO_509000 HO_509001 BK508 HB hx544_0 hx544_1 hx545_0 hx545_1 hx546_0 hx546_1 hx547_0 hx547_1 hHeld ⊢
                          refine pz_ 0 164 (h := ?_)
                          refine pz_ 1 165 (h := ?_)
                          refine pz_ 2 166 (h := ?_)
                          refine pz_ 3 167 (h := ?_)
                          refine pz_ 5 169 (h := ?_)
                          refine pz_ 6 170 (h := ?_)
                          refine pz_ 7 171 (h := ?_)
                          refine pz_ 8 172 (h := ?_)
                          refine tz_ 4 168 (h := ?_)
                          refine tz_ 9 173 (h := ?_)
                          refine pz_ 10 174 (h := ?_)
                          refine pz_ 11 175 (h := ?_)
                          refine pz_ 12 176 (h := ?_)
                          refine pz_ 13 177 (h := ?_)
                          refine pz_ 14 178 (h := ?_)
                          refine pz_ 15 179 (h := ?_)
                          refine pz_ 17 181 (h := ?_)
                          refine pz_ 18 182 (h := ?_)
                          refine pz_ 19 183 (h := ?_)
                          refine pz_ 20 184 (h := ?_)
                          refine tz_ 16 180 (h := ?_)
                          refine tz_ 21 185 (h := ?_)
                          refine pz_ 22 186 (h := ?_)
                          refine pz_ 23 187 (h := ?_)
                          refine done_ (done_of HT_.out (by kernel_rfl)) ?_
                          try go_wp2
                          go_roundg kj80
                          case measure => have := HJ7.out; have := HK2.out; have := HK3.out; have := HK4.out; have := HJ70.out; have := HJ80.out; omega
                          case rel => exact ⟨(x13_4), (wrap64 (x14_4 + 1)), s1_, s1_, H', ⟨by have := HJ7.out; have := HK2.out; have := HK3.out; have := HK4.out; have := HJ70.out; have := HJ80.out; omega⟩, ⟨(fA0 HO_7)⟩, ⟨(fA0 HO_11)⟩, ⟨(fA0 HO_509000)⟩, ⟨(fA0 HO_509001)⟩, ⟨(fA1 BK508)⟩, ⟨(fB1 GE508)⟩⟩
                        ·rw [if_neg c103] at H
                         have c103b0 : (((rd_T34 x7_7 x14_4).f0).toList == ((rd_T34 t530 x12_3).f0).toList) = false := beq_eq_false_iff_ne.mpr c103
                         have c103b1 : (((rd_T34 x7_7 x14_4).f0).toList != ((rd_T34 t530 x12_3).f0).toList) = true := bne_iff_ne.mpr c103
                         have H' := Aside0.mk H
                         clear H
                         try go_wp2
                         have n0_ := Aside0.mk (Kd.R_drew HO_7.out)
                         have n1_ := Aside0.mk (Kd.R_drew HO_11.out)
                         have n2_ := Aside0.mk (Kd.R_drew HO_509000.out)
                         have n3_ := Aside0.mk (Kd.R_drew HO_509001.out)
                         have n4_ := Aside0.mk (blk_drew BK508.out)
                         have n5_ := Aside0.mk (below_drew1 HB.out)
                         clear HO_7
                         clear HO_11
                         clear HO_509000
                         clear HO_509001
                         clear BK508
                         clear HB
                         have HO_7 := n0_
                         have HO_11 := n1_
                         have HO_509000 := n2_
                         have HO_509001 := n3_
                         have BK508 := n4_
                         have HB := n5_
                         clear n0_ n1_ n2_ n3_ n4_ n5_
                         have p544 : 0 ≤ (x14_4 : Int) := of_decide_eq_true (by first | (with_reducible assumption) | assumption)
                         have q544 : x14_4 < (x7_7.length : Int) := of_decide_eq_true (by first | (with_reducible assumption) | assumption)
                         obtain ⟨ad544, e544, hx544_0, hx544_1⟩ := at_T34 (Kd.R_reads' HO_7.out).2.2 x14_4 p544 q544
                         cases e544
                         replace p544 := eq_true p544
                         replace q544 := eq_true q544
                         have p545 : 0 ≤ (x12_3 : Int) := of_decide_eq_true (by first | (with_reducible assumption) | assumption)
                         have q545 : x12_3 < (t530.length : Int) := of_decide_eq_true (by first | (with_reducible assumption) | assumption)
                         obtain ⟨ad545, e545, hx545_0, hx545_1⟩ := at_T34 (Kd.R_reads' HO_11.out).2.2 x12_3 p545 q545
                         cases e545
                         replace p545 := eq_true p545
                         replace q545 := eq_true q545
                         refine start_ (n := 24) (S := fun w' => w'.cell? (ad544.add ((x14_4).toNat * 2)) = some (.string ((rd_T34 x7_7 x14_4).f0)) ∧ w'.cell? ⟨(ad544.add ((x14_4).toNat * 2)).block, (ad544.add ((x14_4).toNat * 2)).off + 1, none⟩ = some (.string ((rd_T34 x7_7 x14_4).f1)) ∧ w'.cell? (ad545.add ((x12_3).toNat * 2)) = some (.string ((rd_T34 t530 x12_3).f0)) ∧ w'.cell? ⟨(ad545.add ((x12_3).toNat * 2)).block, (ad545.add ((x12_3).toNat * 2)).off + 1, none⟩ = some (.string ((rd_T34 t530 x12_3).f1))) (ds := []) #[false, false, false, false, false, false, false, false, false, false, false, false, false, false, false, false, false, false, false, false, false, false, false, false] (by kernel_rfl) rfl rfl ⟨hx544_0, hx544_1, hx545_0, hx545_1⟩ (fun hHeld => ?_); refine with_tabW conciergelaw20_OrderTotal.tab35 conciergelaw20_OrderTotal.bits35 (fun HT_ HW_ => ?_)
                         generalize wc.drew = w107 at HO_7 HO_11 HO_509000 HO_509001 BK508 HB hx544_0 hx544_1 hx545_0 hx545_1 hHeld ⊢
                         refine pz_ 0 164 (h := ?_)
                         refine pz_ 1 165 (h := ?_)
                         refine pz_ 2 166 (h := ?_)
                         refine pz_ 3 167 (h := ?_)
                         refine pz_ 5 169 (h := ?_)
                         refine pz_ 6 170 (h := ?_)
                         refine pz_ 7 171 (h := ?_)
                         refine pz_ 8 172 (h := ?_)
                         refine tz_ 4 168 (h := ?_)
                         refine tz_ 9 173 (h := ?_)
                         refine pz_ 10 174 (h := ?_)
                         refine pz_ 11 175 (h := ?_)
                         refine py_ 12 176 (h := ?_)
                         refine py_ 13 177 (h := ?_)
                         refine py_ 14 178 (h := ?_)
                         refine py_ 15 179 (h := ?_)
                         refine py_ 16 180 (h := ?_)
                         refine py_ 17 181 (h := ?_)
                         refine py_ 18 182 (h := ?_)
                         refine py_ 19 183 (h := ?_)
                         refine py_ 20 184 (h := ?_)
                         refine py_ 21 185 (h := ?_)
                         refine py_ 22 186 (h := ?_)
                         refine pz_ 23 187 (h := ?_)
                         refine done_ (done_of HT_.out (by kernel_rfl)) ?_
                         try go_wp2
                         go_roundg kj80
                         case measure => have := HJ7.out; have := HK2.out; have := HK3.out; have := HK4.out; have := HJ70.out; have := HJ80.out; omega
                         case rel => exact ⟨(x13_4), (wrap64 (x14_4 + 1)), s1_, s1_, H', ⟨by have := HJ7.out; have := HK2.out; have := HK3.out; have := HK4.out; have := HJ70.out; have := HJ80.out; omega⟩, ⟨(fA0 HO_7)⟩, ⟨(fA0 HO_11)⟩, ⟨(fA0 HO_509000)⟩, ⟨(fA0 HO_509001)⟩, ⟨(fA1 BK508)⟩, ⟨(fB1 GE508)⟩⟩
                       ·rw [if_neg c102] at H
                        exact absurd H (by simp)
                      ·rw [if_neg c101] at H
                       exact absurd H (by simp)
                     ·rw [if_neg c100] at H
                      exact absurd H (by simp)
                    ·rw [if_neg c99] at H
                     exact absurd H (by simp)
             ·rw [if_neg c70] at H
              have c70b0 : decide (x14_4 < (t530.length : Int)) = false := decide_eq_false c70
              clear c70
              by_cases c108 : x13_4 = 0
              ·rw [if_pos c108] at H
               have c108b0 : (x13_4 == 0) = true := beq_iff_eq.mpr c108
               have c108b1 : (x13_4 != 0) = false := bne_eq_false_iff_eq.mpr c108
               clear c108
               have H' := Aside0.mk H
               clear H
               go_wp2
               go_roundg k4
               case measure => have := HJ7.out; have := HK2.out; have := HK3.out; have := HK4.out; omega
               case rel => exact ⟨(wrap64 (x12_3 + 1)), s1_, H', ⟨by have := HJ7.out; have := HK2.out; have := HK3.out; have := HK4.out; omega⟩, ⟨(fA0 HO_7)⟩, ⟨(fA0 HO_11)⟩, ⟨(fA0 HO_509000)⟩, ⟨(fA0 HO_509001)⟩, ⟨(fA1 BK508)⟩, ⟨(fB1 GE508)⟩⟩
              ·rw [if_neg c108] at H
               have c108b0 : (x13_4 == 0) = false := beq_eq_false_iff_ne.mpr c108
               have c108b1 : (x13_4 != 0) = true := bne_iff_ne.mpr c108
               obtain rfl := Option.some.inj H
               go_wp2
               go_ret
               exact ⟨by first | rfl | (simp [errW_none, errW_some] <;> rfl) | (simp [*, errW_none, errW_some] <;> rfl), (fB1 GE508)⟩
          ·rw [if_neg c69] at H
           have c69b0 : decide (x12_3 < (t530.length : Int)) = false := decide_eq_false c69
           clear c69
           obtain rfl := Option.some.inj H
           go_wp2
           go_ret
           exact ⟨by first | rfl | (simp [errW_none, errW_some] <;> rfl) | (simp [*, errW_none, errW_some] <;> rfl), (fB1 GE508)⟩
       ·rw [if_neg c64] at H
        have c64b0 : ((t530.length : Int) == (x7_7.length : Int)) = false := beq_eq_false_iff_ne.mpr c64
        have c64b1 : ((t530.length : Int) != (x7_7.length : Int)) = true := bne_iff_ne.mpr c64
        have c64b2 : (t530.length == x7_7.length) = false := by first | simpa using c64 | (simp at c64 ⊢; omega)
        obtain rfl := Option.some.inj H
        obtain ⟨Ao109, co109, eo109⟩ := Kd.R_slice HO_7.out
        subst eo109
        have hcz110_0 : wr.cell? ⟨gb508, 0, none⟩ = some (.slice Ao14 t502.length co14) := (blk_cell BK508.out 0).trans rfl
        have hcz110_1 : wr.cell? ⟨gb508, 1, none⟩ = some (.slice Ao16 t505.length co16) := (blk_cell BK508.out 1).trans rfl
        have hfz110_0 := blk_frozen BK508.out 0
        have hfz110_1 := blk_frozen BK508.out 1
        go_wp2_with (first | ((with_reducible refine gate_callee (f := 11) rfl ?_); refine goesL_ (some 105) rfl rfl Try.func11 (by kernel_rfl) rfl #[.agg #[.slice Ao14 t502.length co14, .slice Ao16 t505.length co16], .slice Ao109 x7_7.length co109] rfl s2_ ?_; (with_reducible refine (order_Sort.calls k2 _ _ t502 _ _ t505 _ _ x7_7 t530 _ ?side1 ?side2 ?side3 ?side4 ?side5 ?side6 A63.out).mono ?_); (case side1 => repeat (first | exact (Kd.R_reads' HO_509000.out).2.2 | (with_reducible refine Kd.C_alloc ?_ _) | (with_reducible refine Kd.C_drewN ?_ _) | (with_reducible refine Kd.C_drew ?_))); (case side2 => exact (Kd.R_reads' HO_509000.out).2.1); (case side3 => repeat (first | exact (Kd.R_reads' HO_509001.out).2.2 | (with_reducible refine Kd.C_alloc ?_ _) | (with_reducible refine Kd.C_drewN ?_ _) | (with_reducible refine Kd.C_drew ?_))); (case side4 => exact (Kd.R_reads' HO_509001.out).2.1); (case side5 => repeat (first | exact (Kd.R_reads' HO_7.out).2.2 | (with_reducible refine Kd.C_alloc ?_ _) | (with_reducible refine Kd.C_drewN ?_ _) | (with_reducible refine Kd.C_drew ?_))); (case side6 => exact (Kd.R_reads' HO_7.out).2.1); rintro e w111 ⟨v531, rfl, ho0, hb⟩; refine ⟨_, rfl, ?_⟩; have n0_ := Aside0.mk (Kd.R_elder' (fA0 HO_7) (Kd.R_base ho0) hb); have n1_ := Aside0.mk (Kd.R_below (fA0 HO_509000) hb); have n2_ := Aside0.mk (Kd.R_below (fA0 HO_509001) hb); have n3_ := Aside0.mk (Kd.R_lower (Kd.R_new' ho0 (Kd.R_lt (fA0 HO_7))) (below_size (fB1 GE508))); have n4_ := Aside0.mk (blk_below (g := gb508) (o := .cells #[.slice Ao14 t502.length co14, .slice Ao16 t505.length co16] 28 (0, 0)) (fA1 BK508) hb); have n5_ := Aside0.mk (below_step (fB1 GE508) hb); clear HO_7; clear HO_509000; clear HO_509001; clear BK508; clear HB; have HO_7 := n0_; have HO_509000 := n1_; have HO_509001 := n2_; have HO532 := n3_; have BK508 := n4_; have HB := n5_; clear n0_ n1_ n2_ n3_ n4_ n5_; (try clear hb); (try clear hb2); (try clear hk); (try clear hi); (try clear ho0); obtain ⟨Ao112, co112, eo112⟩ := Kd.R_slice HO532.out; subst eo112))
        go_ret
        exact ⟨by first | rfl | (simp [errW_none, errW_some] <;> rfl) | (simp [*, errW_none, errW_some] <;> rfl), (fB1 GE508)⟩
 ·replace c4 := Bool.eq_false_iff.mpr c4
  subst c4
  rw [if_neg (show ¬ (false = true) by decide)] at H
  obtain rfl := Option.some.inj H
  go_enter Try.func6, Try.ntmps6
  go_wp2_with (first | ((with_reducible refine gate_callee (f := 7) rfl ?_); refine goesL_ (some 15) rfl rfl Try.func7 (by kernel_rfl) rfl #[] rfl s2_ ?_; (with_reducible refine (conciergelaw20_begun.calls k  false _ A3.out).mono ?_); rintro e w113 ⟨rfl, hb⟩; refine ⟨_, rfl, ?_⟩; have n0_ := Aside0.mk (below_step (fB0) hb); clear HB; have HB := n0_; clear n0_; (try clear hb); (try clear hb2); (try clear hk); (try clear hi)))
  go_ret
  exact ⟨by first | rfl | (simp [errW_none, errW_some] <;> rfl) | (simp [*, errW_none, errW_some] <;> rfl), (fB0)⟩
end Go.Proofs.Ytlfhahnceeoegaa.All
end
