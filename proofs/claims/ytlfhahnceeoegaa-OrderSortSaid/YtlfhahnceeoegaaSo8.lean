/- OrderSort: pairs are sorted by their keys, equal ones stay as they stood (text 8 of 10) -/
import Derived.Test.YtlfhahnceeoegaaSo2
import Derived.Test.YtlfhahnceeoegaaSo7
namespace Go.Proofs.YtlfhahnceeoegaaW.PrintLast
end Go.Proofs.YtlfhahnceeoegaaW.PrintLast
namespace Go.Proofs.YtlfhahnceeoegaaW.PrintMore
end Go.Proofs.YtlfhahnceeoegaaW.PrintMore
namespace Go.Proofs.YtlfhahnceeoegaaW.PrintWords
end Go.Proofs.YtlfhahnceeoegaaW.PrintWords
section
namespace Go.Proofs.Ytlfhahnceeoegaa.All
open Go.RowKit Go.Proofs.YtlfhahnceeoegaaW.PrintWords Go.Proofs.YtlfhahnceeoegaaW.PrintLast Go.Proofs.YtlfhahnceeoegaaW.PrintMore
set_option linter.unusedVariables false
set_option linter.unusedSimpArgs false
mutual
def conciergeref15_Sort.l0 : Nat → List (S34) → List (S34) → Int → List (S52) → List ByteArray → Option ((List (S34)))
 | 0, _, _, _, _, _ => none
 | k + 1, x1, x5, x6, x382000, x382001 => if x6 < (x1.length : Int) then (if 0 ≤ x6 then (if x5.length < 4398046511104 then ((some (x5 ++ [(⟨(rd_T34 x1 x6).f0, (rd_T34 x1 x6).f1⟩ : S34)] : List (S34))).bind fun y383 => (conciergeref15_Sort.l1 k x1 y383 x6 (wrap64 ((y383.length : Int) - 1)) x382000 x382001)) else (none)) else (none)) else (some x5)
def conciergeref15_Sort.l1 : Nat → List (S34) → List (S34) → Int → Int → List (S52) → List ByteArray → Option ((List (S34)))
 | 0, _, _, _, _, _, _ => none
 | k + 1, x1, x5, x6, x7, x382000, x382001 => if x7 > 0 then (if 0 ≤ x7 then (if x7 < (x5.length : Int) then (if 0 ≤ (wrap64 (x7 - 1)) then (if (wrap64 (x7 - 1)) < (x5.length : Int) then ((conciergeref15_Less.f k x382000 x382001 ((rd_T34 x5 x7).f0) ((rd_T34 x5 x7).f1) ((rd_T34 x5 (wrap64 (x7 - 1))).f0) ((rd_T34 x5 (wrap64 (x7 - 1))).f1)).bind fun t388 => (if t388 = true then (conciergeref15_Sort.l1 k x1 ((x5.set ((wrap64 (x7 - 1)) : Int).toNat (⟨(rd_T34 x5 x7).f0, (rd_T34 x5 x7).f1⟩ : S34)).set (x7 : Int).toNat (⟨(rd_T34 x5 (wrap64 (x7 - 1))).f0, (rd_T34 x5 (wrap64 (x7 - 1))).f1⟩ : S34)) x6 (wrap64 (x7 - 1)) x382000 x382001) else (conciergeref15_Sort.l0 k x1 x5 (wrap64 (x6 + 1)) x382000 x382001))) else (none)) else (none)) else (none)) else (none)) else (conciergeref15_Sort.l0 k x1 x5 (wrap64 (x6 + 1)) x382000 x382001)
end
def conciergeref15_Sort.f (k : Nat) (l0_0 : List (S52)) (l0_1 : List ByteArray) (l1 : List (S34)) : Option ((List (S34))) := conciergeref15_Sort.l0 k l1 ([] : List (S34)) 0 l0_0 l0_1
def conciergeref15_Sort.T7 : Bool × List (List Nat × List Nat) := (true, [([], []), ([0], [0]), ([1], [1]), ([2], [2]), ([2], [2]), ([2], [2]), ([4, 5, 2], [2, 4, 5]), ([6, 2], [2, 6]), ([2], [2]), ([2], [2]), ([9, 2], [2, 9]), ([8, 10, 2], [2, 8, 10]), ([11, 2], [2, 11]), ([3, 7, 12, 2, 2], [2, 3, 7, 12]), ([2, 13], [2, 13])])
def conciergeref15_Sort.B7 : List Nat := [0, 1, 3, 7, 7, 7, 55, 119, 7, 7, 519, 1799, 3847, 8191, 16383]
theorem conciergeref15_Sort.tab7 : rtab .any (opsOf Try.f12 7) = conciergeref15_Sort.T7 := by kernel_rfl
theorem conciergeref15_Sort.bits7 : waitsOk conciergeref15_Sort.T7.2 conciergeref15_Sort.B7 = true := by kernel_rfl
def conciergeref15_Sort.T9 : Bool × List (List Nat × List Nat) := (true, [([], []), ([], []), ([1], [1]), ([0, 2], [0, 2]), ([3], [3]), ([], []), ([], []), ([5, 6], [5, 6]), ([7], [7]), ([], []), ([], []), ([9, 4, 0, 1, 2, 3, 4, 9, 10], [4, 9]), ([10, 8, 11, 0, 1, 2, 3, 4, 5, 6, 7, 8, 9, 10, 11], [8, 10])])
def conciergeref15_Sort.B9 : List Nat := [0, 0, 2, 7, 15, 0, 0, 96, 224, 0, 0, 1567, 4095]
theorem conciergeref15_Sort.tab9 : rtab .any (opsOf Try.f12 9) = conciergeref15_Sort.T9 := by kernel_rfl
theorem conciergeref15_Sort.bits9 : waitsOk conciergeref15_Sort.T9.2 conciergeref15_Sort.B9 = true := by kernel_rfl
set_option maxHeartbeats 8000000 in
set_option maxRecDepth 100000 in
theorem conciergeref15_Sort.calls (k : Nat) (A0_0 : Option Addr) (c0_0 : Nat) (l0_0 : List (S52)) (A0_1 : Option Addr) (c0_1 : Nat) (l0_1 : List ByteArray) (A1 : Option Addr) (c1 : Nat) (l1 : List (S34)) (r : List (S34)) (w : World) (hr0_0 : Kd.C k52 w A0_0 l0_0.length l0_0) (hc0_0 : l0_0.length ≤ c0_0) (hr0_1 : Kd.C Kd.string w A0_1 l0_1.length l0_1) (hc0_1 : l0_1.length ≤ c0_1) (hr1 : Kd.C k34 w A1 l1.length l1) (hc1 : l1.length ≤ c1) (h : conciergeref15_Sort.f k l0_0 l0_1 l1 = some r) :
  Calls Try.prog 12 #[.agg #[.slice A0_0 l0_0.length c0_0, .slice A0_1 l0_1.length c0_1], .slice A1 l1.length c1] w fun e w' => ∃ v0_ : Value, e = .returned (v0_) ∧ Kd.R k34 34 w' w.heap.size (fun _ => True) v0_ r ∧ Below w.heap.size w w' := by
 have hu28 := Try.underlying28
 have hu34 := Try.underlying34
 have HR0_0 := Aside0.mk hr0_0
 have HC0_0 := Aside0.mk hc0_0
 clear hr0_0 hc0_0
 have HR0_1 := Aside0.mk hr0_1
 have HC0_1 := Aside0.mk hc0_1
 clear hr0_1 hc0_1
 have HR1 := Aside0.mk hr1
 have HC1 := Aside0.mk hc1
 clear hr1 hc1
 have HB := Aside0.mk (Below.refl w.heap.size w)
 have H : (conciergeref15_Sort.l0 k l1 ([] : List (S34)) 0 l0_0 l0_1) = some r := h
 clear h
 have H' := Aside0.mk H
 clear H
 go_enter Try.func12, Try.ntmps12
 go_wp2_with (first | ((with_reducible refine gate_dst (N := 2) rfl ?_); refine box_event ?hg (N := 2) ?hd (cs := #[.slice A0_0 l0_0.length c0_0, .slice A0_1 l0_1.length c0_1]) (t := 28) ?hr ?_; (case hd => rfl); (case hg => rfl); (case hr => first | (go_simp; done) | (go_simp; rfl)); intro gb381 hg w3 hbox hb; have n0_ := Aside0.mk (below_step (fB0) hb); have n1_ := Aside0.mk (hbox); have n2_ := Aside0.mk ((by rw [hg]; exact (below_size (fB0)) : w.heap.size ≤ gb381)); have n3_ := Aside0.mk ((by rw [hg]; exact (below_size (fB0)) : w.heap.size ≤ gb381)); clear HB; have HB := n0_; have BK381 := n1_; have GW381 := n2_; have GE381 := n3_; clear n0_ n1_ n2_ n3_; clear hb hbox hg))
 go_loopg [5, 6] k (fun kq v5 v6 w' => ∃ (x5_1 : List (S34)) (x6_1 : Int), v6 = .int .i64 x6_1 ∧ Aside0 (conciergeref15_Sort.l0 kq l1 x5_1 x6_1 l0_0 l0_1 = some r) ∧ Aside0 (kq ≤ k) ∧ Aside0 (Kd.R k34 34 w' w.heap.size (fun _ => True) v5 x5_1) ∧ Aside0 (w'.heap[gb381]? = some (.cells #[(.slice A0_0 l0_0.length c0_0), (.slice A0_1 l0_1.length c0_1)] 28 (0, 0))) ∧ Aside0 (Below w.heap.size w w'))
 case atStart => exact ⟨(([] : List (S34))), (0), s1_, H', ⟨Nat.le_refl _⟩, ⟨by first | exact Kd.R_nil _ _ _ _ _ | exact Kd.N_nil _ _ _ _ _ | exact Kd.V_nil _ _ _ _ _ | exact Kd.Q_nil _ _ _ _ _ | exact Kd.S_nil _ _ _ _ _⟩, ⟨(fA1 BK381)⟩, ⟨(fB1 GE381)⟩⟩
 case round =>
  clear H'
  try clear c1
  try clear p2
  obtain ⟨x5_1, x6_1, rfl, HA, HK1, HO_5, BK381, HB⟩ := hrel
  cases gk with
  | zero => exact absurd HA.out (by simp [conciergeref15_Sort.l0])
  | succ k1 =>
   have H := HA.out
   clear HA
   simp only [conciergeref15_Sort.l0] at H
   by_cases c4 : x6_1 < (l1.length : Int)
   ·rw [if_pos c4] at H
    have c4b0 : decide (x6_1 < (l1.length : Int)) = true := decide_eq_true c4
    clear c4
    by_cases c5 : 0 ≤ x6_1
    ·rw [if_pos c5] at H
     have c5b0 : decide (0 ≤ x6_1) = true := decide_eq_true c5
     clear c5
     by_cases c6 : x5_1.length < 4398046511104
     ·rw [if_pos c6] at H
      have LMc6 := Aside0.mk c6
      clear c6
      obtain ⟨y383, hy383⟩ : ∃ y_ : List (S34), y_ = (x5_1 ++ [(⟨(rd_T34 l1 x6_1).f0, (rd_T34 l1 x6_1).f1⟩ : S34)]) := ⟨_, rfl⟩
      replace H : (conciergeref15_Sort.l1 k1 l1 y383 x6_1 (wrap64 ((y383.length : Int) - 1)) l0_0 l0_1) = some r := by first | (rw [hy383]; with_reducible exact H) | (have H2_ := (Option.bind_some _ _).symm.trans H; rw [hy383]; with_reducible exact H2_) | (have H2_ := (Option.bind_some _ _).symm.trans H; with_reducible exact H2_) | with_reducible exact H | (rw [hy383]; exact H) | exact H
      have Ny383 := Aside0.mk hy383
      clear hy383
      have H' := Aside0.mk H
      clear H
      have p382 : 0 ≤ (x6_1 : Int) := of_decide_eq_true (by first | (with_reducible assumption) | assumption)
      have q382 : x6_1 < (l1.length : Int) := of_decide_eq_true (by first | (with_reducible assumption) | assumption)
      obtain ⟨ad382, e382, hx382_0, hx382_1⟩ := at_T34 HR1.out x6_1 p382 q382
      cases e382
      replace hx382_0 := (HB.out.cell (World.block_lt_of_cell? w _ hx382_0)).trans hx382_0
      replace hx382_1 := (HB.out.cell (World.block_lt_of_cell? w _ hx382_1)).trans hx382_1
      replace p382 := eq_true p382
      replace q382 := eq_true q382
      go_wp2_with (first | ((with_reducible refine gate_builtin (b := .append) (xs := #[.tmp 16, .tmp 21]) rfl ?_); at_builtin; refine Kd.R_append k34 (w0 := w) w.heap.size rfl (.tmp 16) (.tmp 21) 23 34 (.agg #[(.string ⟨#[]⟩), (.string ⟨#[]⟩)]) 32 rfl Try.underlying23 info34 rfl (by decide) (by omega) u5 x5_1 (⟨(rd_T34 l1 x6_1).f0, (rd_T34 l1 x6_1).f1⟩ : S34) [.string ((rd_T34 l1 x6_1).f0), .string ((rd_T34 l1 x6_1).f1)] (fun _ => True) (fun _ => False) rfl rfl ?aP (fun _ hk => hk.elim) ?aF ?aO ?aB ?aS ?aL ?_; (case aP => exact k34_mkM _ _ _ (⟨(rd_T34 l1 x6_1).f0, (rd_T34 l1 x6_1).f1⟩ : S34)); (case aB => exact (fB1 GE381)); (case aF => exact (fun _ _ => trivial)); (case aO => exact (fA0 HO_5)); (case aS => exact (below_size (fB1 GE381))); (case aL => have := LMc6.out; omega); intro v384 w7 ho hb hg hat; rw [← Ny383.out] at ho; have n0_ := Aside0.mk (blk_grown (g := gb381) (o := .cells #[.slice A0_0 l0_0.length c0_0, .slice A0_1 l0_1.length c0_1] 28 (0, 0)) (fA1 BK381) hg (Kd.R_ne HO_5.out BK381.out (by decide))); have n1_ := Aside0.mk (hb); have n2_ := Aside0.mk (ho); clear BK381; clear HB; clear HO_5; have BK381 := n0_; have HB := n1_; have HO385 := n2_; clear n0_ n1_ n2_; clear ho hb hg hat; obtain ⟨Ao8, co8, eo8⟩ := Kd.R_slice HO385.out; subst eo8))
      go_loopg [7] k1 (fun kq v7 w' => ∃ (x5_2 : List (S34)) (x7_2 : Int), v7 = .int .i64 x7_2 ∧ Aside0 (conciergeref15_Sort.l1 kq l1 x5_2 x6_1 x7_2 l0_0 l0_1 = some r) ∧ Aside0 (kq ≤ k1) ∧ Aside0 (Kd.R k34 34 w' w.heap.size (fun _ => True) (.slice Ao8 y383.length co8) x5_2) ∧ Aside0 (w'.heap[gb381]? = some (.cells #[(.slice A0_0 l0_0.length c0_0), (.slice A0_1 l0_1.length c0_1)] 28 (0, 0))) ∧ Aside0 (Below w.heap.size w w'))
      case atStart => exact ⟨(y383), (wrap64 ((y383.length : Int) - 1)), s1_, H', ⟨Nat.le_refl _⟩, ⟨(fA0 HO385)⟩, ⟨(fA1 BK381)⟩, ⟨(fB1 GE381)⟩⟩
      case round =>
       clear H'
       try clear c1
       try clear p2
       try clear p3
       try clear q3
       try clear hx3
       try clear c4
       try clear c4b0
       try clear c5
       try clear c5b0
       try clear c6
       try clear p6
       try clear hx382_0
       try clear hx382_1
       try clear p2
       try clear p382
       try clear q382
       obtain ⟨x5_2, x7_2, rfl, HA, HK2, HO_5, BK381, HB⟩ := hrel
       have hl5_2 := (Kd.R_reads' HO_5.out).1
       rw [hl5_2] at HO_5
       (try simp only [hl5_2])
       (try simp only [hl5_2] at BK381)
       cases gk with
       | zero => exact absurd HA.out (by simp [conciergeref15_Sort.l1])
       | succ k2 =>
        have H := HA.out
        clear HA
        simp only [conciergeref15_Sort.l1] at H
        by_cases c9 : x7_2 > 0
        ·rw [if_pos c9] at H
         have c9b0 : decide (0 < x7_2) = true := decide_eq_true c9
         clear c9
         by_cases c10 : 0 ≤ x7_2
         ·rw [if_pos c10] at H
          have c10b0 : decide (0 ≤ x7_2) = true := decide_eq_true c10
          clear c10
          by_cases c11 : x7_2 < (x5_2.length : Int)
          ·rw [if_pos c11] at H
           have c11b0 : decide (x7_2 < (x5_2.length : Int)) = true := decide_eq_true c11
           clear c11
           obtain ⟨ji12, hji12⟩ : ∃ j_ : Int, (wrap64 (x7_2 - 1)) = j_ := ⟨_, rfl⟩
           replace H : (if 0 ≤ (ji12) then (if (ji12) < (x5_2.length : Int) then ((conciergeref15_Less.f k2 l0_0 l0_1 ((rd_T34 x5_2 x7_2).f0) ((rd_T34 x5_2 x7_2).f1) ((rd_T34 x5_2 (ji12)).f0) ((rd_T34 x5_2 (ji12)).f1)).bind fun t388 => (if t388 = true then (conciergeref15_Sort.l1 k2 l1 ((x5_2.set ((ji12) : Int).toNat (⟨(rd_T34 x5_2 x7_2).f0, (rd_T34 x5_2 x7_2).f1⟩ : S34)).set (x7_2 : Int).toNat (⟨(rd_T34 x5_2 (ji12)).f0, (rd_T34 x5_2 (ji12)).f1⟩ : S34)) x6_1 ji12 l0_0 l0_1) else (conciergeref15_Sort.l0 k2 l1 x5_2 (wrap64 (x6_1 + 1)) l0_0 l0_1))) else (none)) else (none)) = some r := by first | (rw [hji12] at H; exact H) | (simp only [hji12] at H ⊢; exact H)
           have hji12w : (IntKind.i64.wrap (x7_2 - 1)) = ji12 := (i64_w _).trans hji12
           by_cases c13 : 0 ≤ (ji12)
           ·rw [if_pos c13] at H
            have c13b0 : decide (0 ≤ (ji12)) = true := decide_eq_true c13
            clear c13
            by_cases c14 : (ji12) < (x5_2.length : Int)
            ·rw [if_pos c14] at H
             have c14b0 : decide ((ji12) < (x5_2.length : Int)) = true := decide_eq_true c14
             clear c14
             replace H := Option.bind_eq_some_iff.mp H
             obtain ⟨t388, A150, H⟩ := H
             have A15 := Aside0.mk A150
             clear A150
             by_cases c16 : t388 = true
             ·subst c16
              rw [if_pos rfl] at H
              obtain ⟨y393, hy393⟩ : ∃ y_ : List (S34), y_ = (x5_2.set ((ji12) : Int).toNat (⟨(rd_T34 x5_2 x7_2).f0, (rd_T34 x5_2 x7_2).f1⟩ : S34)) := ⟨_, rfl⟩
              replace H : (conciergeref15_Sort.l1 k2 l1 (y393.set (x7_2 : Int).toNat (⟨(rd_T34 x5_2 (ji12)).f0, (rd_T34 x5_2 (ji12)).f1⟩ : S34)) x6_1 ji12 l0_0 l0_1) = some r := by first | (rw [hy393]; with_reducible exact H) | (have H2_ := (Option.bind_some _ _).symm.trans H; rw [hy393]; with_reducible exact H2_) | (have H2_ := (Option.bind_some _ _).symm.trans H; with_reducible exact H2_) | with_reducible exact H | (rw [hy393]; exact H) | exact H
              have Ny393 := Aside0.mk hy393
              clear hy393
              obtain ⟨y394, hy394⟩ : ∃ y_ : List (S34), y_ = (y393.set (x7_2 : Int).toNat (⟨(rd_T34 x5_2 (ji12)).f0, (rd_T34 x5_2 (ji12)).f1⟩ : S34)) := ⟨_, rfl⟩
              replace H : (conciergeref15_Sort.l1 k2 l1 y394 x6_1 ji12 l0_0 l0_1) = some r := by first | (rw [hy394]; with_reducible exact H) | (have H2_ := (Option.bind_some _ _).symm.trans H; rw [hy394]; with_reducible exact H2_) | (have H2_ := (Option.bind_some _ _).symm.trans H; with_reducible exact H2_) | with_reducible exact H | (rw [hy394]; exact H) | exact H
              have Ny394 := Aside0.mk hy394
              clear hy394
              have H' := Aside0.mk H
              clear H
              try go_wp2
              have n0_ := Aside0.mk (Kd.R_drew HO_5.out)
              have n1_ := Aside0.mk (blk_drew BK381.out)
              have n2_ := Aside0.mk (below_drew1 HB.out)
              clear HO_5
              clear BK381
              clear HB
              have HO_5 := n0_
              have BK381 := n1_
              have HB := n2_
              clear n0_ n1_ n2_
              have p386 : 0 ≤ (x7_2 : Int) := of_decide_eq_true (by first | (with_reducible assumption) | assumption)
              have q386 : x7_2 < (x5_2.length : Int) := of_decide_eq_true (by first | (with_reducible assumption) | assumption)
              obtain ⟨ad386, e386, hx386_0, hx386_1⟩ := at_T34 (Kd.R_reads' HO_5.out).2.2 x7_2 p386 q386
              cases e386
              replace p386 := eq_true p386
              replace q386 := eq_true q386
              have p387 : 0 ≤ ((ji12) : Int) := of_decide_eq_true (by first | (with_reducible assumption) | assumption)
              have q387 : (ji12) < (x5_2.length : Int) := of_decide_eq_true (by first | (with_reducible assumption) | assumption)
              obtain ⟨ad387, e387, hx387_0, hx387_1⟩ := at_T34 (Kd.R_reads' HO_5.out).2.2 (ji12) p387 q387
              obtain rfl : ad386 = ad387 := (by injection e387)
              replace p387 := eq_true p387
              replace q387 := eq_true q387
              refine start_ (n := 15) (S := fun w' => w'.cell? ⟨gb381, 0, none⟩ = some (.slice A0_0 l0_0.length c0_0) ∧ w'.cell? ⟨gb381, 1, none⟩ = some (.slice A0_1 l0_1.length c0_1) ∧ w'.cell? (ad386.add ((x7_2).toNat * 2)) = some (.string ((rd_T34 x5_2 x7_2).f0)) ∧ w'.cell? ⟨(ad386.add ((x7_2).toNat * 2)).block, (ad386.add ((x7_2).toNat * 2)).off + 1, none⟩ = some (.string ((rd_T34 x5_2 x7_2).f1)) ∧ w'.cell? (ad386.add (((ji12)).toNat * 2)) = some (.string ((rd_T34 x5_2 (ji12)).f0)) ∧ w'.cell? ⟨(ad386.add (((ji12)).toNat * 2)).block, (ad386.add (((ji12)).toNat * 2)).off + 1, none⟩ = some (.string ((rd_T34 x5_2 (ji12)).f1))) (ds := []) #[false, false, false, false, false, false, false, false, false, false, false, false, false, false, false] (by kernel_rfl) rfl rfl ⟨(blk_cell BK381.out 0).trans rfl, (blk_cell BK381.out 1).trans rfl, hx386_0, hx386_1, hx387_0, hx387_1⟩ (fun hHeld => ?_); refine with_tabW conciergeref15_Sort.tab7 conciergeref15_Sort.bits7 (fun HT_ HW_ => ?_)
              generalize wr.drew = w19 at HO_5 BK381 HB hx386_0 hx386_1 hx387_0 hx387_1 hHeld ⊢
              refine pure_ (i := 0) (N := some 26) (v := ?_) (a' := ?_) #[true, false, false, false, false, false, false, false, false, false, false, false, false, false, false] rfl rfl (any_of HT_.out (by kernel_rfl)) (fun _ _ _ h => h) (Or.inl ⟨by rfl, ?_⟩) ?_ ?_
              rotate_left
              ·intro w'
               go_simp
               with_reducible rfl
              rotate_left
              ·simp only [Act.put, List.setIfInBounds_toArray, List.set_cons_zero, List.set_cons_succ, i64_w, i32_w]
               rfl
              refine pure_ (i := 1) (N := some 27) (v := ?_) (a' := ?_) #[true, true, false, false, false, false, false, false, false, false, false, false, false, false, false] rfl rfl (any_of HT_.out (by kernel_rfl)) (fun _ _ _ h => h) (Or.inl ⟨by rfl, ?_⟩) ?_ ?_
              rotate_left
              ·intro w'
               go_simp
               with_reducible rfl
              rotate_left
              ·simp only [Act.put, List.setIfInBounds_toArray, List.set_cons_zero, List.set_cons_succ, i64_w, i32_w]
               rfl
              refine pure_ (i := 2) (N := some 28) (v := ?_) (a' := ?_) #[true, true, true, false, false, false, false, false, false, false, false, false, false, false, false] rfl rfl (any_of HT_.out (by kernel_rfl)) (fun _ _ _ h => h) (Or.inl ⟨by rfl, ?_⟩) ?_ ?_
              rotate_left
              ·intro w'
               go_simp
               with_reducible rfl
              rotate_left
              ·simp only [Act.put, List.setIfInBounds_toArray, List.set_cons_zero, List.set_cons_succ, i64_w, i32_w]
               rfl
              refine pure_ (i := 4) (N := some 30) (v := ?_) (a' := ?_) #[true, true, true, false, true, false, false, false, false, false, false, false, false, false, false] rfl rfl (any_of HT_.out (by kernel_rfl)) (fun _ _ _ h => h) (Or.inl ⟨by rfl, ?_⟩) ?_ ?_
              rotate_left
              ·intro w'
               go_simp
               with_reducible rfl
              rotate_left
              ·simp only [Act.put, List.setIfInBounds_toArray, List.set_cons_zero, List.set_cons_succ, i64_w, i32_w]
               rfl
              refine pure_ (i := 5) (N := some 31) (v := ?_) (a' := ?_) #[true, true, true, false, true, true, false, false, false, false, false, false, false, false, false] rfl rfl (any_of HT_.out (by kernel_rfl)) (fun _ _ _ h => h) (Or.inl ⟨by rfl, ?_⟩) ?_ ?_
              rotate_left
              ·intro w'
               go_simp
               with_reducible rfl
              rotate_left
              ·simp only [Act.put, List.setIfInBounds_toArray, List.set_cons_zero, List.set_cons_succ, i64_w, i32_w]
               rfl
              refine pure_ (i := 6) (N := some 32) (v := ?_) (a' := ?_) #[true, true, true, false, true, true, true, false, false, false, false, false, false, false, false] rfl rfl (any_of HT_.out (by kernel_rfl)) (fun _ _ _ h => h) (Or.inl ⟨by rfl, ?_⟩) ?_ ?_
              rotate_left
              ·intro w'
               go_simp
               with_reducible rfl
              rotate_left
              ·simp only [Act.put, List.setIfInBounds_toArray, List.set_cons_zero, List.set_cons_succ, i64_w, i32_w]
               rfl
              refine pure_ (i := 8) (N := some 34) (v := ?_) (a' := ?_) #[true, true, true, false, true, true, true, false, true, false, false, false, false, false, false] rfl rfl (any_of HT_.out (by kernel_rfl)) (fun _ _ _ h => h) (Or.inl ⟨by rfl, ?_⟩) ?_ ?_
              rotate_left
              ·intro w'
               go_simp
               with_reducible rfl
              rotate_left
              ·simp only [Act.put, List.setIfInBounds_toArray, List.set_cons_zero, List.set_cons_succ, i64_w, i32_w]
               rfl
              refine pure_ (i := 9) (N := some 35) (v := ?_) (a' := ?_) #[true, true, true, false, true, true, true, false, true, true, false, false, false, false, false] rfl rfl (any_of HT_.out (by kernel_rfl)) (fun _ _ _ h => h) (Or.inl ⟨by rfl, ?_⟩) ?_ ?_
              rotate_left
              ·intro w'
               go_simp
               with_reducible rfl
              rotate_left
              ·simp only [Act.put, List.setIfInBounds_toArray, List.set_cons_zero, List.set_cons_succ, i64_w, i32_w]
               rfl
              refine pure_ (i := 10) (N := some 36) (v := ?_) (a' := ?_) #[true, true, true, false, true, true, true, false, true, true, true, false, false, false, false] rfl rfl (any_of HT_.out (by kernel_rfl)) (fun _ _ _ h => h) (Or.inl ⟨by rfl, ?_⟩) ?_ ?_
              rotate_left
              ·intro w'
               go_simp
               with_reducible rfl
              rotate_left
              ·simp only [Act.put, List.setIfInBounds_toArray, List.set_cons_zero, List.set_cons_succ, i64_w, i32_w]
               rfl
              refine pure_ (i := 11) (N := some 37) (v := ?_) (a' := ?_) #[true, true, true, false, true, true, true, false, true, true, true, true, false, false, false] rfl rfl (any_of HT_.out (by kernel_rfl)) (fun _ _ _ h => h) (Or.inl ⟨by rfl, ?_⟩) ?_ ?_
              rotate_left
              ·intro w'
               go_simp
               with_reducible rfl
              rotate_left
              ·simp only [Act.put, List.setIfInBounds_toArray, List.set_cons_zero, List.set_cons_succ, i64_w, i32_w]
               rfl
              refine take_ (i := 3) (N := some 29) (v := ?_) (a' := ?_) #[true, true, true, true, true, true, true, false, true, true, true, true, false, false, false] rfl rfl (take_ofW HT_.out HW_.out (by kernel_rfl)) (fun _ _ _ h => h) (Or.inl ⟨by rfl, ?_⟩) hHeld ?_ ?_
              rotate_left
              ·rintro w' ⟨s0, s1, s2, s3, s4, s5⟩
               go_simp
               with_reducible rfl
              rotate_left
              ·simp only [Act.put, List.setIfInBounds_toArray, List.set_cons_zero, List.set_cons_succ, i64_w, i32_w]
               rfl
              refine take_ (i := 7) (N := some 33) (v := ?_) (a' := ?_) #[true, true, true, true, true, true, true, true, true, true, true, true, false, false, false] rfl rfl (take_ofW HT_.out HW_.out (by kernel_rfl)) (fun _ _ _ h => h) (Or.inl ⟨by rfl, ?_⟩) hHeld ?_ ?_
              rotate_left
              ·rintro w' ⟨s0, s1, s2, s3, s4, s5⟩
               go_simp
               with_reducible rfl
              rotate_left
              ·simp only [Act.put, List.setIfInBounds_toArray, List.set_cons_zero, List.set_cons_succ, i64_w, i32_w]
               rfl
              refine take_ (i := 12) (N := some 38) (v := ?_) (a' := ?_) #[true, true, true, true, true, true, true, true, true, true, true, true, true, false, false] rfl rfl (take_ofW HT_.out HW_.out (by kernel_rfl)) (fun _ _ _ h => h) (Or.inl ⟨by rfl, ?_⟩) hHeld ?_ ?_
              rotate_left
              ·rintro w' ⟨s0, s1, s2, s3, s4, s5⟩
               go_simp
               with_reducible rfl
              rotate_left
              ·simp only [Act.put, List.setIfInBounds_toArray, List.set_cons_zero, List.set_cons_succ, i64_w, i32_w]
               rfl
              refine one_ (i := 13) (N := some 39) #[true, true, true, true, true, true, true, true, true, true, true, true, true, true, false] rfl rfl (one_of HT_.out (by kernel_rfl)) (by decide) (fun K hK => ?_)
              refine goes_ Try.func28 (by kernel_rfl) rfl #[.agg #[.slice A0_0 l0_0.length c0_0, .slice A0_1 l0_1.length c0_1], .agg #[.string ((rd_T34 x5_2 x7_2).f0), .string ((rd_T34 x5_2 x7_2).f1)], .agg #[.string ((rd_T34 x5_2 (ji12)).f0), .string ((rd_T34 x5_2 (ji12)).f1)]] (by rfl) rfl rfl (by (try simp only [List.map_toArray, List.map_cons, List.map_nil]); first | done | (simp only [hji12]; rfl) | rfl | (simp only [List.length_drop, List.length_take]; rfl)) ?_
              with_reducible refine (conciergeref15_Less.calls k2 _ _ l0_0 _ _ l0_1 ((rd_T34 x5_2 x7_2).f0) ((rd_T34 x5_2 x7_2).f1) ((rd_T34 x5_2 (ji12)).f0) ((rd_T34 x5_2 (ji12)).f1) true _ ?side1 ?side2 ?side3 ?side4 A15.out).mono ?_
              (case side1 => repeat (first | exact (Kd.C_below HR0_0.out HB.out) | (with_reducible refine Kd.C_alloc ?_ _) | (with_reducible refine Kd.C_drewN ?_ _) | (with_reducible refine Kd.C_drew ?_)))
              (case side2 => exact HC0_0.out)
              (case side3 => repeat (first | exact (Kd.C_below HR0_1.out HB.out) | (with_reducible refine Kd.C_alloc ?_ _) | (with_reducible refine Kd.C_drewN ?_ _) | (with_reducible refine Kd.C_drew ?_)))
              (case side4 => exact HC0_1.out)
              rintro e w20 ⟨rfl, hb⟩
              have HS2_ := (hb.cell (World.block_lt_of_cell? _ _ (hHeld.2.2.1))).trans (hHeld.2.2.1)
              have HS3_ := (hb.cell (World.block_lt_of_cell? _ _ (hHeld.2.2.2.1))).trans (hHeld.2.2.2.1)
              have HS4_ := (hb.cell (World.block_lt_of_cell? _ _ (hHeld.2.2.2.2.1))).trans (hHeld.2.2.2.2.1)
              have HS5_ := (hb.cell (World.block_lt_of_cell? _ _ (hHeld.2.2.2.2.2))).trans (hHeld.2.2.2.2.2)
              refine ⟨_, rfl, ?_⟩
              have n0_ := Aside0.mk (Kd.R_below (fA0 HO_5) hb)
              have n1_ := Aside0.mk (blk_below (g := gb381) (o := .cells #[.slice A0_0 l0_0.length c0_0, .slice A0_1 l0_1.length c0_1] 28 (0, 0)) (fA1 BK381) hb)
              have n2_ := Aside0.mk (below_step (fB1 GE381) hb)
              clear HO_5
              clear BK381
              clear HB
              have HO_5 := n0_
              have BK381 := n1_
              have HB := n2_
              clear n0_ n1_ n2_
              (try clear hb)
              (try clear hb2)
              (try clear hk)
              (try clear hi)
              refine hK.out _ _ ⟨(blk_cell BK381.out 0).trans rfl, (blk_cell BK381.out 1).trans rfl, HS2_, HS3_, HS4_, HS5_⟩ (fun hHeld => ?_)
              clear hK K
              refine norm_ (a' := ?_) ?_ ?_
              rotate_left
              ·show Act.put _ (some 39) _ = _
               simp only [Act.put, List.setIfInBounds_toArray, List.set_cons_zero, List.set_cons_succ, i64_w, i32_w]
               rfl
              refine pure_ (i := 14) (N := some 40) (v := ?_) (a' := ?_) #[true, true, true, true, true, true, true, true, true, true, true, true, true, true, true] rfl rfl (any_of HT_.out (by kernel_rfl)) (fun _ _ _ h => h) (Or.inl ⟨by rfl, ?_⟩) ?_ ?_
              rotate_left
              ·intro w'
               go_simp
               with_reducible rfl
              rotate_left
              ·simp only [Act.put, List.setIfInBounds_toArray, List.set_cons_zero, List.set_cons_succ, i64_w, i32_w]
               rfl
              refine done_ (done_of HT_.out (by kernel_rfl)) ?_
              try go_wp2
              have n0_ := Aside0.mk (Kd.R_drew HO_5.out)
              have n1_ := Aside0.mk (blk_drew BK381.out)
              have n2_ := Aside0.mk (below_drew1 HB.out)
              clear HO_5
              clear BK381
              clear HB
              have HO_5 := n0_
              have BK381 := n1_
              have HB := n2_
              clear n0_ n1_ n2_
              have p389 : 0 ≤ ((ji12) : Int) := of_decide_eq_true (by first | (with_reducible assumption) | assumption)
              have q389 : (ji12) < (x5_2.length : Int) := of_decide_eq_true (by first | (with_reducible assumption) | assumption)
              obtain ⟨ad389, e389, hx389_0, hx389_1⟩ := at_T34 (Kd.R_reads' HO_5.out).2.2 (ji12) p389 q389
              obtain rfl : ad386 = ad389 := (by injection e389)
              replace p389 := eq_true p389
              replace q389 := eq_true q389
              have p390 : 0 ≤ (x7_2 : Int) := of_decide_eq_true (by first | (with_reducible assumption) | assumption)
              have q390 : x7_2 < (x5_2.length : Int) := of_decide_eq_true (by first | (with_reducible assumption) | assumption)
              obtain ⟨ad390, e390, hx390_0, hx390_1⟩ := at_T34 (Kd.R_reads' HO_5.out).2.2 x7_2 p390 q390
              obtain rfl : ad386 = ad390 := (by injection e390)
              replace p390 := eq_true p390
              replace q390 := eq_true q390
              refine start_ (n := 13) (S := fun w' => w'.cell? (ad386.add (((ji12)).toNat * 2)) = some (.string ((rd_T34 x5_2 (ji12)).f0)) ∧ w'.cell? ⟨(ad386.add (((ji12)).toNat * 2)).block, (ad386.add (((ji12)).toNat * 2)).off + 1, none⟩ = some (.string ((rd_T34 x5_2 (ji12)).f1)) ∧ w'.cell? (ad386.add ((x7_2).toNat * 2)) = some (.string ((rd_T34 x5_2 x7_2).f0)) ∧ w'.cell? ⟨(ad386.add ((x7_2).toNat * 2)).block, (ad386.add ((x7_2).toNat * 2)).off + 1, none⟩ = some (.string ((rd_T34 x5_2 x7_2).f1))) (ds := []) #[false, false, false, false, false, false, false, false, false, false, false, false, false] (by kernel_rfl) rfl rfl ⟨hx389_0, hx389_1, hx390_0, hx390_1⟩ (fun hHeld => ?_); refine with_tabW conciergeref15_Sort.tab9 conciergeref15_Sort.bits9 (fun HT_ HW_ => ?_)
              generalize w20.drew = w21 at HO_5 BK381 HB hx389_0 hx389_1 hx390_0 hx390_1 hHeld ⊢
              refine pure_ (i := 0) (N := some 43) (v := ?_) (a' := ?_) #[true, false, false, false, false, false, false, false, false, false, false, false, false] rfl rfl (any_of HT_.out (by kernel_rfl)) (fun _ _ _ h => h) (Or.inl ⟨by rfl, ?_⟩) ?_ ?_
              rotate_left
              ·intro w'
               go_simp
               with_reducible rfl
              rotate_left
              ·simp only [Act.put, List.setIfInBounds_toArray, List.set_cons_zero, List.set_cons_succ, i64_w, i32_w]
               rfl
              refine pure_ (i := 1) (N := some 44) (v := ?_) (a' := ?_) #[true, true, false, false, false, false, false, false, false, false, false, false, false] rfl rfl (any_of HT_.out (by kernel_rfl)) (fun _ _ _ h => h) (Or.inl ⟨by rfl, ?_⟩) ?_ ?_
              rotate_left
              ·intro w'
               go_simp
               with_reducible rfl
              rotate_left
              ·simp only [Act.put, List.setIfInBounds_toArray, List.set_cons_zero, List.set_cons_succ, i64_w, i32_w]
               rfl
              refine pure_ (i := 2) (N := some 45) (v := ?_) (a' := ?_) #[true, true, true, false, false, false, false, false, false, false, false, false, false] rfl rfl (any_of HT_.out (by kernel_rfl)) (fun _ _ _ h => h) (Or.inl ⟨by rfl, ?_⟩) ?_ ?_
              rotate_left
              ·intro w'
               go_simp
               with_reducible rfl
              rotate_left
              ·simp only [Act.put, List.setIfInBounds_toArray, List.set_cons_zero, List.set_cons_succ, i64_w, i32_w]
               rfl
              refine pure_ (i := 3) (N := some 46) (v := ?_) (a' := ?_) #[true, true, true, true, false, false, false, false, false, false, false, false, false] rfl rfl (any_of HT_.out (by kernel_rfl)) (fun _ _ _ h => h) (Or.inl ⟨by rfl, ?_⟩) ?_ ?_
              rotate_left
              ·intro w'
               go_simp
               with_reducible rfl
              rotate_left
              ·simp only [Act.put, List.setIfInBounds_toArray, List.set_cons_zero, List.set_cons_succ, i64_w, i32_w]
               rfl
              refine pure_ (i := 5) (N := some 48) (v := ?_) (a' := ?_) #[true, true, true, true, false, true, false, false, false, false, false, false, false] rfl rfl (any_of HT_.out (by kernel_rfl)) (fun _ _ _ h => h) (Or.inl ⟨by rfl, ?_⟩) ?_ ?_
              rotate_left
              ·intro w'
               go_simp
               with_reducible rfl
              rotate_left
              ·simp only [Act.put, List.setIfInBounds_toArray, List.set_cons_zero, List.set_cons_succ, i64_w, i32_w]
               rfl
              refine pure_ (i := 6) (N := some 49) (v := ?_) (a' := ?_) #[true, true, true, true, false, true, true, false, false, false, false, false, false] rfl rfl (any_of HT_.out (by kernel_rfl)) (fun _ _ _ h => h) (Or.inl ⟨by rfl, ?_⟩) ?_ ?_
              rotate_left
              ·intro w'
               go_simp
               with_reducible rfl
              rotate_left
              ·simp only [Act.put, List.setIfInBounds_toArray, List.set_cons_zero, List.set_cons_succ, i64_w, i32_w]
               rfl
              refine pure_ (i := 7) (N := some 50) (v := ?_) (a' := ?_) #[true, true, true, true, false, true, true, true, false, false, false, false, false] rfl rfl (any_of HT_.out (by kernel_rfl)) (fun _ _ _ h => h) (Or.inl ⟨by rfl, ?_⟩) ?_ ?_
              rotate_left
              ·intro w'
               go_simp
               with_reducible rfl
              rotate_left
              ·simp only [Act.put, List.setIfInBounds_toArray, List.set_cons_zero, List.set_cons_succ, i64_w, i32_w]
               rfl
              refine take_ (i := 4) (N := some 47) (v := ?_) (a' := ?_) #[true, true, true, true, true, true, true, true, false, false, false, false, false] rfl rfl (take_ofW HT_.out HW_.out (by kernel_rfl)) (fun _ _ _ h => h) (Or.inl ⟨by rfl, ?_⟩) hHeld ?_ ?_
              rotate_left
              ·rintro w' ⟨s0, s1, s2, s3⟩
               go_simp
               with_reducible rfl
              rotate_left
              ·simp only [Act.put, List.setIfInBounds_toArray, List.set_cons_zero, List.set_cons_succ, i64_w, i32_w]
               rfl
              refine take_ (i := 8) (N := some 51) (v := ?_) (a' := ?_) #[true, true, true, true, true, true, true, true, true, false, false, false, false] rfl rfl (take_ofW HT_.out HW_.out (by kernel_rfl)) (fun _ _ _ h => h) (Or.inl ⟨by rfl, ?_⟩) hHeld ?_ ?_
              rotate_left
              ·rintro w' ⟨s0, s1, s2, s3⟩
               go_simp
               with_reducible rfl
              rotate_left
              ·simp only [Act.put, List.setIfInBounds_toArray, List.set_cons_zero, List.set_cons_succ, i64_w, i32_w]
               rfl
              refine join_ (σ := Nat × Nat) 2 #[true, true, true, true, true, true, true, true, true, true, true, false, false] (fun s_ => [(8, .pointer (some ⟨s_.1, 0, none⟩)), (9, .pointer (some ⟨s_.2, 0, none⟩))]) (fun s_ w' => (w'.cell? (ad386.add (((ji12)).toNat * 2)) = some (.string ((rd_T34 x5_2 (ji12)).f0)) ∧ w'.cell? ⟨(ad386.add (((ji12)).toNat * 2)).block, (ad386.add (((ji12)).toNat * 2)).off + 1, none⟩ = some (.string ((rd_T34 x5_2 (ji12)).f1)) ∧ w'.cell? (ad386.add ((x7_2).toNat * 2)) = some (.string ((rd_T34 x5_2 x7_2).f0)) ∧ w'.cell? ⟨(ad386.add ((x7_2).toNat * 2)).block, (ad386.add ((x7_2).toNat * 2)).off + 1, none⟩ = some (.string ((rd_T34 x5_2 x7_2).f1))) ∧ (Kd.R k34 34 w' w.heap.size (fun k_ => k_ ≠ s_.1 ∧ k_ ≠ s_.2) (.slice (some ad386) x5_2.length co8) x5_2) ∧ (w'.heap[gb381]? = some (.cells #[.slice A0_0 l0_0.length c0_0, .slice A0_1 l0_1.length c0_1] 28 (0, 0))) ∧ (w'.heap[s_.1]? = some (.cells #[.string (⟨#[]⟩ : ByteArray), .string (⟨#[]⟩ : ByteArray)] 34 (0, 0))) ∧ (w'.heap[s_.2]? = some (.cells #[.string (⟨#[]⟩ : ByteArray), .string (⟨#[]⟩ : ByteArray)] 34 (0, 0))) ∧ (w.heap.size ≤ s_.1) ∧ (w.heap.size ≤ s_.1) ∧ (gb381 ≠ s_.1) ∧ (s_.1 ≠ gb381) ∧ (s_.2 ≠ s_.1) ∧ (s_.1 ≠ s_.2) ∧ (w.heap.size ≤ s_.2) ∧ (w.heap.size ≤ s_.2) ∧ (gb381 ≠ s_.2) ∧ (s_.2 ≠ gb381) ∧ (Below w.heap.size w w')) ?_ ?_
              rotate_left
              ·intro hCont
               refine two_ (i := 9) (j := 10) (Ni := some 8) (Nj := some 9) #[true, true, true, true, true, true, true, true, true, true, false, false, false] #[true, true, true, true, true, true, true, true, true, false, true, false, false] rfl rfl rfl rfl (two_of HT_.out (by kernel_rfl)) (by decide) (by decide) (fun K hK => ?_) (fun K hK => ?_)
               ·skip
                refine box_step ?hg (N := 8) ?hd (cs := #[.string (⟨#[]⟩ : ByteArray), .string (⟨#[]⟩ : ByteArray)]) (t := 34) ?hr ?_; (case hd => rfl); (case hg => rfl); (case hr => first | (go_simp; done) | (go_simp; rfl))
                intro gb391 hg w22 hbox hb
                have HS0_ := (hb.cell (World.block_lt_of_cell? _ _ (hHeld.1))).trans (hHeld.1)
                have HS1_ := (hb.cell (World.block_lt_of_cell? _ _ (hHeld.2.1))).trans (hHeld.2.1)
                have HS2_ := (hb.cell (World.block_lt_of_cell? _ _ (hHeld.2.2.1))).trans (hHeld.2.2.1)
                have HS3_ := (hb.cell (World.block_lt_of_cell? _ _ (hHeld.2.2.2))).trans (hHeld.2.2.2)
                have n0_ := Aside0.mk (Kd.R_below (Kd.R_elderB (fA0 HO_5) gb391 (Nat.le_of_eq hg.symm)) hb)
                have n1_ := Aside0.mk (blk_below (g := gb381) (o := .cells #[.slice A0_0 l0_0.length c0_0, .slice A0_1 l0_1.length c0_1] 28 (0, 0)) (fA1 BK381) hb)
                have n2_ := Aside0.mk (below_step (fB1 GE381) hb)
                have n3_ := Aside0.mk (hbox)
                have n4_ := Aside0.mk ((by rw [hg]; exact (below_size (fB1 GE381)) : w.heap.size ≤ gb391))
                have n5_ := Aside0.mk ((by rw [hg]; exact (below_size (fB1 GE381)) : w.heap.size ≤ gb391))
                have n6_ := Aside0.mk ((by rw [hg]; exact Nat.ne_of_lt (blk_lt (g := gb381) (o := .cells #[.slice A0_0 l0_0.length c0_0, .slice A0_1 l0_1.length c0_1] 28 (0, 0)) (fA1 BK381)) : gb381 ≠ gb391))
                have n7_ := Aside0.mk ((by rw [hg]; exact Nat.ne_of_gt (blk_lt (g := gb381) (o := .cells #[.slice A0_0 l0_0.length c0_0, .slice A0_1 l0_1.length c0_1] 28 (0, 0)) (fA1 BK381)) : gb391 ≠ gb381))
                clear HO_5
                clear BK381
                clear HB
                have HO_5 := n0_
                have BK381 := n1_
                have HB := n2_
                have BK391 := n3_
                have GW391 := n4_
                have GE391 := n5_
                have NB381_391 := n6_
                have NB391_381 := n7_
                clear n0_ n1_ n2_ n3_ n4_ n5_ n6_ n7_
                clear hb hbox hg
                refine hK.out _ _ ⟨HS0_, HS1_, HS2_, HS3_⟩ (fun hHeld => ?_)
                clear hK K
                refine norm_ (a' := ?_) ?_ ?_
                rotate_left
                ·show Act.put _ (some 8) _ = _
                 simp only [Act.put, List.setIfInBounds_toArray, List.set_cons_zero, List.set_cons_succ, i64_w, i32_w]
                 rfl
                refine one_ (i := 10) (N := some 9) #[true, true, true, true, true, true, true, true, true, true, true, false, false] rfl rfl (one_of HT_.out (by kernel_rfl)) (by decide) (fun K hK => ?_)
                refine box_step ?hg (N := 9) ?hd (cs := #[.string (⟨#[]⟩ : ByteArray), .string (⟨#[]⟩ : ByteArray)]) (t := 34) ?hr ?_; (case hd => rfl); (case hg => rfl); (case hr => first | (go_simp; done) | (go_simp; rfl))
                intro gb392 hg w23 hbox hb
                have HS0_ := (hb.cell (World.block_lt_of_cell? _ _ (hHeld.1))).trans (hHeld.1)
                have HS1_ := (hb.cell (World.block_lt_of_cell? _ _ (hHeld.2.1))).trans (hHeld.2.1)
                have HS2_ := (hb.cell (World.block_lt_of_cell? _ _ (hHeld.2.2.1))).trans (hHeld.2.2.1)
                have HS3_ := (hb.cell (World.block_lt_of_cell? _ _ (hHeld.2.2.2))).trans (hHeld.2.2.2)
                have n0_ := Aside0.mk (Kd.R_below (Kd.R_elderB (fA0 HO_5) gb392 (Nat.le_of_eq hg.symm)) hb)
                have n1_ := Aside0.mk (blk_below (g := gb381) (o := .cells #[.slice A0_0 l0_0.length c0_0, .slice A0_1 l0_1.length c0_1] 28 (0, 0)) (fA1 BK381) hb)
                have n2_ := Aside0.mk (blk_below (g := gb391) (o := .cells #[.string (⟨#[]⟩ : ByteArray), .string (⟨#[]⟩ : ByteArray)] 34 (0, 0)) (fA1 BK391) hb)
                have n3_ := Aside0.mk (below_step (fB2 GE381 GE391) hb)
                have n4_ := Aside0.mk (hbox)
                have n5_ := Aside0.mk ((by rw [hg]; exact (below_size (fB2 GE381 GE391)) : w.heap.size ≤ gb392))
                have n6_ := Aside0.mk ((by rw [hg]; exact (below_size (fB2 GE381 GE391)) : w.heap.size ≤ gb392))
                have n7_ := Aside0.mk ((by rw [hg]; exact Nat.ne_of_lt (blk_lt (g := gb381) (o := .cells #[.slice A0_0 l0_0.length c0_0, .slice A0_1 l0_1.length c0_1] 28 (0, 0)) (fA1 BK381)) : gb381 ≠ gb392))
                have n8_ := Aside0.mk ((by rw [hg]; exact Nat.ne_of_gt (blk_lt (g := gb381) (o := .cells #[.slice A0_0 l0_0.length c0_0, .slice A0_1 l0_1.length c0_1] 28 (0, 0)) (fA1 BK381)) : gb392 ≠ gb381))
                have n9_ := Aside0.mk ((by rw [hg]; exact Nat.ne_of_lt (blk_lt (g := gb391) (o := .cells #[.string (⟨#[]⟩ : ByteArray), .string (⟨#[]⟩ : ByteArray)] 34 (0, 0)) (fA1 BK391)) : gb391 ≠ gb392))
                have n10_ := Aside0.mk ((by rw [hg]; exact Nat.ne_of_gt (blk_lt (g := gb391) (o := .cells #[.string (⟨#[]⟩ : ByteArray), .string (⟨#[]⟩ : ByteArray)] 34 (0, 0)) (fA1 BK391)) : gb392 ≠ gb391))
                clear HO_5
                clear BK381
                clear BK391
                clear HB
                have HO_5 := n0_
                have BK381 := n1_
                have BK391 := n2_
                have HB := n3_
                have BK392 := n4_
                have GW392 := n5_
                have GE392 := n6_
                have NB381_392 := n7_
                have NB392_381 := n8_
                have NB391_392 := n9_
                have NB392_391 := n10_
                clear n0_ n1_ n2_ n3_ n4_ n5_ n6_ n7_ n8_ n9_ n10_
                clear hb hbox hg
                refine hK.out _ _ ⟨HS0_, HS1_, HS2_, HS3_⟩ (fun hHeld => ?_)
                clear hK K
                refine norm_ (a' := ?_) ?_ ?_
                rotate_left
                ·show Act.put _ (some 9) _ = _
                 simp only [Act.put, List.setIfInBounds_toArray, List.set_cons_zero, List.set_cons_succ, i64_w, i32_w]
                 rfl
                exact norm_ (by simp only [putAll, Act.put, List.setIfInBounds_toArray, List.set_cons_zero, List.set_cons_succ]) (hCont (gb391, gb392) _ ⟨hHeld, (by (with_reducible repeat (first | apply Kd.R_alloc | apply Kd.R_drewN | apply Kd.R_drew)); exact Kd.R_mono HO_5.out (fun _ hk => ⟨hk.1.2, hk.2⟩)), (fA1 BK381), (fA1 BK391), (fA1 BK392), GW391.out, GE391.out, NB381_391.out, NB391_381.out, NB392_391.out, NB391_392.out, GW392.out, GE392.out, NB381_392.out, NB392_381.out, (fB3 GE381 GE391 GE392)⟩)
               ·skip
                refine box_step ?hg (N := 9) ?hd (cs := #[.string (⟨#[]⟩ : ByteArray), .string (⟨#[]⟩ : ByteArray)]) (t := 34) ?hr ?_; (case hd => rfl); (case hg => rfl); (case hr => first | (go_simp; done) | (go_simp; rfl))
                intro gb392 hg w22 hbox hb
                have HS0_ := (hb.cell (World.block_lt_of_cell? _ _ (hHeld.1))).trans (hHeld.1)
                have HS1_ := (hb.cell (World.block_lt_of_cell? _ _ (hHeld.2.1))).trans (hHeld.2.1)
                have HS2_ := (hb.cell (World.block_lt_of_cell? _ _ (hHeld.2.2.1))).trans (hHeld.2.2.1)
                have HS3_ := (hb.cell (World.block_lt_of_cell? _ _ (hHeld.2.2.2))).trans (hHeld.2.2.2)
                have n0_ := Aside0.mk (Kd.R_below (Kd.R_elderB (fA0 HO_5) gb392 (Nat.le_of_eq hg.symm)) hb)
                have n1_ := Aside0.mk (blk_below (g := gb381) (o := .cells #[.slice A0_0 l0_0.length c0_0, .slice A0_1 l0_1.length c0_1] 28 (0, 0)) (fA1 BK381) hb)
                have n2_ := Aside0.mk (below_step (fB1 GE381) hb)
                have n3_ := Aside0.mk (hbox)
                have n4_ := Aside0.mk ((by rw [hg]; exact (below_size (fB1 GE381)) : w.heap.size ≤ gb392))
                have n5_ := Aside0.mk ((by rw [hg]; exact (below_size (fB1 GE381)) : w.heap.size ≤ gb392))
                have n6_ := Aside0.mk ((by rw [hg]; exact Nat.ne_of_lt (blk_lt (g := gb381) (o := .cells #[.slice A0_0 l0_0.length c0_0, .slice A0_1 l0_1.length c0_1] 28 (0, 0)) (fA1 BK381)) : gb381 ≠ gb392))
                have n7_ := Aside0.mk ((by rw [hg]; exact Nat.ne_of_gt (blk_lt (g := gb381) (o := .cells #[.slice A0_0 l0_0.length c0_0, .slice A0_1 l0_1.length c0_1] 28 (0, 0)) (fA1 BK381)) : gb392 ≠ gb381))
                clear HO_5
                clear BK381
                clear HB
                have HO_5 := n0_
                have BK381 := n1_
                have HB := n2_
                have BK392 := n3_
                have GW392 := n4_
                have GE392 := n5_
                have NB381_392 := n6_
                have NB392_381 := n7_
                clear n0_ n1_ n2_ n3_ n4_ n5_ n6_ n7_
                clear hb hbox hg
                refine hK.out _ _ ⟨HS0_, HS1_, HS2_, HS3_⟩ (fun hHeld => ?_)
                clear hK K
                refine norm_ (a' := ?_) ?_ ?_
                rotate_left
                ·show Act.put _ (some 9) _ = _
                 simp only [Act.put, List.setIfInBounds_toArray, List.set_cons_zero, List.set_cons_succ, i64_w, i32_w]
                 rfl
                refine one_ (i := 9) (N := some 8) #[true, true, true, true, true, true, true, true, true, true, true, false, false] rfl rfl (one_of HT_.out (by kernel_rfl)) (by decide) (fun K hK => ?_)
                refine box_step ?hg (N := 8) ?hd (cs := #[.string (⟨#[]⟩ : ByteArray), .string (⟨#[]⟩ : ByteArray)]) (t := 34) ?hr ?_; (case hd => rfl); (case hg => rfl); (case hr => first | (go_simp; done) | (go_simp; rfl))
                intro gb391 hg w23 hbox hb
                have HS0_ := (hb.cell (World.block_lt_of_cell? _ _ (hHeld.1))).trans (hHeld.1)
                have HS1_ := (hb.cell (World.block_lt_of_cell? _ _ (hHeld.2.1))).trans (hHeld.2.1)
                have HS2_ := (hb.cell (World.block_lt_of_cell? _ _ (hHeld.2.2.1))).trans (hHeld.2.2.1)
                have HS3_ := (hb.cell (World.block_lt_of_cell? _ _ (hHeld.2.2.2))).trans (hHeld.2.2.2)
                have n0_ := Aside0.mk (Kd.R_below (Kd.R_elderB (fA0 HO_5) gb391 (Nat.le_of_eq hg.symm)) hb)
                have n1_ := Aside0.mk (blk_below (g := gb381) (o := .cells #[.slice A0_0 l0_0.length c0_0, .slice A0_1 l0_1.length c0_1] 28 (0, 0)) (fA1 BK381) hb)
                have n2_ := Aside0.mk (blk_below (g := gb392) (o := .cells #[.string (⟨#[]⟩ : ByteArray), .string (⟨#[]⟩ : ByteArray)] 34 (0, 0)) (fA1 BK392) hb)
                have n3_ := Aside0.mk (below_step (fB2 GE381 GE392) hb)
                have n4_ := Aside0.mk (hbox)
                have n5_ := Aside0.mk ((by rw [hg]; exact (below_size (fB2 GE381 GE392)) : w.heap.size ≤ gb391))
                have n6_ := Aside0.mk ((by rw [hg]; exact (below_size (fB2 GE381 GE392)) : w.heap.size ≤ gb391))
                have n7_ := Aside0.mk ((by rw [hg]; exact Nat.ne_of_lt (blk_lt (g := gb381) (o := .cells #[.slice A0_0 l0_0.length c0_0, .slice A0_1 l0_1.length c0_1] 28 (0, 0)) (fA1 BK381)) : gb381 ≠ gb391))
                have n8_ := Aside0.mk ((by rw [hg]; exact Nat.ne_of_gt (blk_lt (g := gb381) (o := .cells #[.slice A0_0 l0_0.length c0_0, .slice A0_1 l0_1.length c0_1] 28 (0, 0)) (fA1 BK381)) : gb391 ≠ gb381))
                have n9_ := Aside0.mk ((by rw [hg]; exact Nat.ne_of_lt (blk_lt (g := gb392) (o := .cells #[.string (⟨#[]⟩ : ByteArray), .string (⟨#[]⟩ : ByteArray)] 34 (0, 0)) (fA1 BK392)) : gb392 ≠ gb391))
                have n10_ := Aside0.mk ((by rw [hg]; exact Nat.ne_of_gt (blk_lt (g := gb392) (o := .cells #[.string (⟨#[]⟩ : ByteArray), .string (⟨#[]⟩ : ByteArray)] 34 (0, 0)) (fA1 BK392)) : gb391 ≠ gb392))
                clear HO_5
                clear BK381
                clear BK392
                clear HB
                have HO_5 := n0_
                have BK381 := n1_
                have BK392 := n2_
                have HB := n3_
                have BK391 := n4_
                have GW391 := n5_
                have GE391 := n6_
                have NB381_391 := n7_
                have NB391_381 := n8_
                have NB392_391 := n9_
                have NB391_392 := n10_
                clear n0_ n1_ n2_ n3_ n4_ n5_ n6_ n7_ n8_ n9_ n10_
                clear hb hbox hg
                refine hK.out _ _ ⟨HS0_, HS1_, HS2_, HS3_⟩ (fun hHeld => ?_)
                clear hK K
                refine norm_ (a' := ?_) ?_ ?_
                rotate_left
                ·show Act.put _ (some 8) _ = _
                 simp only [Act.put, List.setIfInBounds_toArray, List.set_cons_zero, List.set_cons_succ, i64_w, i32_w]
                 rfl
                exact norm_ (by simp only [putAll, Act.put, List.setIfInBounds_toArray, List.set_cons_zero, List.set_cons_succ]) (hCont (gb391, gb392) _ ⟨hHeld, (by (with_reducible repeat (first | apply Kd.R_alloc | apply Kd.R_drewN | apply Kd.R_drew)); exact Kd.R_mono HO_5.out (fun _ hk => ⟨hk.2, hk.1.2⟩)), (fA1 BK381), (fA1 BK391), (fA1 BK392), GW391.out, GE391.out, NB381_391.out, NB391_381.out, NB392_391.out, NB391_392.out, GW392.out, GE392.out, NB381_392.out, NB392_381.out, (fB3 GE381 GE392 GE391)⟩)
              rintro ⟨gb391, gb392⟩ w24 ⟨hS_, h0_, h1_, h2_, h3_, h4_, h5_, h6_, h7_, h8_, h9_, h10_, h11_, h12_, h13_, h14_⟩
              have n0_ : Aside0 (Kd.R k34 34 w24 w.heap.size (fun k_ => k_ ≠ gb391 ∧ k_ ≠ gb392) (.slice (some ad386) x5_2.length co8) x5_2) := ⟨h0_⟩
              have n1_ : Aside0 (w24.heap[gb381]? = some (.cells #[.slice A0_0 l0_0.length c0_0, .slice A0_1 l0_1.length c0_1] 28 (0, 0))) := ⟨h1_⟩
              have n2_ : Aside0 (w24.heap[gb391]? = some (.cells #[.string (⟨#[]⟩ : ByteArray), .string (⟨#[]⟩ : ByteArray)] 34 (0, 0))) := ⟨h2_⟩
              have n3_ : Aside0 (w24.heap[gb392]? = some (.cells #[.string (⟨#[]⟩ : ByteArray), .string (⟨#[]⟩ : ByteArray)] 34 (0, 0))) := ⟨h3_⟩
              have n4_ : Aside0 (w.heap.size ≤ gb391) := ⟨h4_⟩
              have n5_ : Aside0 (w.heap.size ≤ gb391) := ⟨h5_⟩
              have n6_ : Aside0 (gb381 ≠ gb391) := ⟨h6_⟩
              have n7_ : Aside0 (gb391 ≠ gb381) := ⟨h7_⟩
              have n8_ : Aside0 (gb392 ≠ gb391) := ⟨h8_⟩
              have n9_ : Aside0 (gb391 ≠ gb392) := ⟨h9_⟩
              have n10_ : Aside0 (w.heap.size ≤ gb392) := ⟨h10_⟩
              have n11_ : Aside0 (w.heap.size ≤ gb392) := ⟨h11_⟩
              have n12_ : Aside0 (gb381 ≠ gb392) := ⟨h12_⟩
              have n13_ : Aside0 (gb392 ≠ gb381) := ⟨h13_⟩
              have n14_ : Aside0 (Below w.heap.size w w24) := ⟨h14_⟩
              clear HO_5
              clear BK381
              clear HB
              clear h0_ h1_ h2_ h3_ h4_ h5_ h6_ h7_ h8_ h9_ h10_ h11_ h12_ h13_ h14_
              have HO_5 := n0_
              have BK381 := n1_
              have BK391 := n2_
              have BK392 := n3_
              have GW391 := n4_
              have GE391 := n5_
              have NB381_391 := n6_
              have NB391_381 := n7_
              have NB392_391 := n8_
              have NB391_392 := n9_
              have GW392 := n10_
              have GE392 := n11_
              have NB381_392 := n12_
              have NB392_381 := n13_
              have HB := n14_
              clear n0_ n1_ n2_ n3_ n4_ n5_ n6_ n7_ n8_ n9_ n10_ n11_ n12_ n13_ n14_
              have hHeld : w24.cell? (ad386.add (((ji12)).toNat * 2)) = some (.string ((rd_T34 x5_2 (ji12)).f0)) ∧ w24.cell? ⟨(ad386.add (((ji12)).toNat * 2)).block, (ad386.add (((ji12)).toNat * 2)).off + 1, none⟩ = some (.string ((rd_T34 x5_2 (ji12)).f1)) ∧ w24.cell? (ad386.add ((x7_2).toNat * 2)) = some (.string ((rd_T34 x5_2 x7_2).f0)) ∧ w24.cell? ⟨(ad386.add ((x7_2).toNat * 2)).block, (ad386.add ((x7_2).toNat * 2)).off + 1, none⟩ = some (.string ((rd_T34 x5_2 x7_2).f1)) := hS_
              refine norm_ (a' := ?_) ?_ ?_
              rotate_left
              ·simp only [putAll, Act.put, List.setIfInBounds_toArray, List.set_cons_zero, List.set_cons_succ]
               rfl
              refine one_ (i := 11) (N := none) #[true, true, true, true, true, true, true, true, true, true, true, true, false] rfl rfl (one_of HT_.out (by kernel_rfl)) (by decide) (fun K hK => ?_)
              have hs25 : w24.cell? ⟨gb391, 0, none⟩ = some (.string (⟨#[]⟩ : ByteArray)) := (blk_cell BK391.out 0).trans rfl
              have hfs25 := blk_frozen BK391.out 0
              have hns25_0 := NB381_391.out
              have hns25_2 := NB392_391.out
              have hms25_0 := NB391_381.out
              have hms25_2 := NB391_392.out
              have hs26 : w24.cell? ⟨gb391, 1, none⟩ = some (.string (⟨#[]⟩ : ByteArray)) := (blk_cell BK391.out 1).trans rfl
              have hfs26 := blk_frozen BK391.out 1
              have hns26_0 := NB381_391.out
              have hns26_2 := NB392_391.out
              have hms26_0 := NB391_381.out
              have hms26_2 := NB391_392.out
              refine skip_ (w1 := ?_) (by rfl) rfl ?_ ?_
              rotate_left
              ·go_simp
               rfl
              refine hK.out _ _ ⟨((cell_far (p := ⟨gb391, _, none⟩) (by first | exact Kd.own_blk (Kd.R_away HO_5.out (fun _ hk => hk.1)) | (rw [add_block]; exact Kd.own_blk (Kd.R_away HO_5.out (fun _ hk => hk.1))) | (show (Addr.add _ _).block ≠ _; rw [add_block]; exact Kd.own_blk (Kd.R_away HO_5.out (fun _ hk => hk.1))) | (dsimp only; exact Kd.own_blk (Kd.R_away HO_5.out (fun _ hk => hk.1)))) _).trans (((cell_far (p := ⟨gb391, _, none⟩) (by first | exact Kd.own_blk (Kd.R_away HO_5.out (fun _ hk => hk.1)) | (rw [add_block]; exact Kd.own_blk (Kd.R_away HO_5.out (fun _ hk => hk.1))) | (show (Addr.add _ _).block ≠ _; rw [add_block]; exact Kd.own_blk (Kd.R_away HO_5.out (fun _ hk => hk.1))) | (dsimp only; exact Kd.own_blk (Kd.R_away HO_5.out (fun _ hk => hk.1)))) _).trans (hHeld.1)))), ((cell_far (p := ⟨gb391, _, none⟩) (by first | exact Kd.own_blk (Kd.R_away HO_5.out (fun _ hk => hk.1)) | (rw [add_block]; exact Kd.own_blk (Kd.R_away HO_5.out (fun _ hk => hk.1))) | (show (Addr.add _ _).block ≠ _; rw [add_block]; exact Kd.own_blk (Kd.R_away HO_5.out (fun _ hk => hk.1))) | (dsimp only; exact Kd.own_blk (Kd.R_away HO_5.out (fun _ hk => hk.1)))) _).trans (((cell_far (p := ⟨gb391, _, none⟩) (by first | exact Kd.own_blk (Kd.R_away HO_5.out (fun _ hk => hk.1)) | (rw [add_block]; exact Kd.own_blk (Kd.R_away HO_5.out (fun _ hk => hk.1))) | (show (Addr.add _ _).block ≠ _; rw [add_block]; exact Kd.own_blk (Kd.R_away HO_5.out (fun _ hk => hk.1))) | (dsimp only; exact Kd.own_blk (Kd.R_away HO_5.out (fun _ hk => hk.1)))) _).trans (hHeld.2.1)))), ((cell_far (p := ⟨gb391, _, none⟩) (by first | exact Kd.own_blk (Kd.R_away HO_5.out (fun _ hk => hk.1)) | (rw [add_block]; exact Kd.own_blk (Kd.R_away HO_5.out (fun _ hk => hk.1))) | (show (Addr.add _ _).block ≠ _; rw [add_block]; exact Kd.own_blk (Kd.R_away HO_5.out (fun _ hk => hk.1))) | (dsimp only; exact Kd.own_blk (Kd.R_away HO_5.out (fun _ hk => hk.1)))) _).trans (((cell_far (p := ⟨gb391, _, none⟩) (by first | exact Kd.own_blk (Kd.R_away HO_5.out (fun _ hk => hk.1)) | (rw [add_block]; exact Kd.own_blk (Kd.R_away HO_5.out (fun _ hk => hk.1))) | (show (Addr.add _ _).block ≠ _; rw [add_block]; exact Kd.own_blk (Kd.R_away HO_5.out (fun _ hk => hk.1))) | (dsimp only; exact Kd.own_blk (Kd.R_away HO_5.out (fun _ hk => hk.1)))) _).trans (hHeld.2.2.1)))), ((cell_far (p := ⟨gb391, _, none⟩) (by first | exact Kd.own_blk (Kd.R_away HO_5.out (fun _ hk => hk.1)) | (rw [add_block]; exact Kd.own_blk (Kd.R_away HO_5.out (fun _ hk => hk.1))) | (show (Addr.add _ _).block ≠ _; rw [add_block]; exact Kd.own_blk (Kd.R_away HO_5.out (fun _ hk => hk.1))) | (dsimp only; exact Kd.own_blk (Kd.R_away HO_5.out (fun _ hk => hk.1)))) _).trans (((cell_far (p := ⟨gb391, _, none⟩) (by first | exact Kd.own_blk (Kd.R_away HO_5.out (fun _ hk => hk.1)) | (rw [add_block]; exact Kd.own_blk (Kd.R_away HO_5.out (fun _ hk => hk.1))) | (show (Addr.add _ _).block ≠ _; rw [add_block]; exact Kd.own_blk (Kd.R_away HO_5.out (fun _ hk => hk.1))) | (dsimp only; exact Kd.own_blk (Kd.R_away HO_5.out (fun _ hk => hk.1)))) _).trans (hHeld.2.2.2))))⟩ (fun hHeld => ?_)
              clear hK K
              refine one_ (i := 12) (N := none) #[true, true, true, true, true, true, true, true, true, true, true, true, true] rfl rfl (one_of HT_.out (by kernel_rfl)) (by decide) (fun K hK => ?_)
              have hs27 : w24.cell? ⟨gb392, 0, none⟩ = some (.string (⟨#[]⟩ : ByteArray)) := (blk_cell BK392.out 0).trans rfl
              have hfs27 := blk_frozen BK392.out 0
              have hns27_0 := NB381_392.out
              have hns27_1 := NB391_392.out
              have hms27_0 := NB392_381.out
              have hms27_1 := NB392_391.out
              have hs28 : w24.cell? ⟨gb392, 1, none⟩ = some (.string (⟨#[]⟩ : ByteArray)) := (blk_cell BK392.out 1).trans rfl
              have hfs28 := blk_frozen BK392.out 1
              have hns28_0 := NB381_392.out
              have hns28_1 := NB391_392.out
              have hms28_0 := NB392_381.out
              have hms28_1 := NB392_391.out
              refine skip_ (w1 := ?_) (by rfl) rfl ?_ ?_
              rotate_left
              ·go_simp
               rfl
              refine hK.out _ _ ⟨((cell_far (p := ⟨gb392, _, none⟩) (by first | exact Kd.own_blk (Kd.R_away HO_5.out (fun _ hk => hk.2)) | (rw [add_block]; exact Kd.own_blk (Kd.R_away HO_5.out (fun _ hk => hk.2))) | (show (Addr.add _ _).block ≠ _; rw [add_block]; exact Kd.own_blk (Kd.R_away HO_5.out (fun _ hk => hk.2))) | (dsimp only; exact Kd.own_blk (Kd.R_away HO_5.out (fun _ hk => hk.2)))) _).trans (((cell_far (p := ⟨gb392, _, none⟩) (by first | exact Kd.own_blk (Kd.R_away HO_5.out (fun _ hk => hk.2)) | (rw [add_block]; exact Kd.own_blk (Kd.R_away HO_5.out (fun _ hk => hk.2))) | (show (Addr.add _ _).block ≠ _; rw [add_block]; exact Kd.own_blk (Kd.R_away HO_5.out (fun _ hk => hk.2))) | (dsimp only; exact Kd.own_blk (Kd.R_away HO_5.out (fun _ hk => hk.2)))) _).trans (hHeld.1)))), ((cell_far (p := ⟨gb392, _, none⟩) (by first | exact Kd.own_blk (Kd.R_away HO_5.out (fun _ hk => hk.2)) | (rw [add_block]; exact Kd.own_blk (Kd.R_away HO_5.out (fun _ hk => hk.2))) | (show (Addr.add _ _).block ≠ _; rw [add_block]; exact Kd.own_blk (Kd.R_away HO_5.out (fun _ hk => hk.2))) | (dsimp only; exact Kd.own_blk (Kd.R_away HO_5.out (fun _ hk => hk.2)))) _).trans (((cell_far (p := ⟨gb392, _, none⟩) (by first | exact Kd.own_blk (Kd.R_away HO_5.out (fun _ hk => hk.2)) | (rw [add_block]; exact Kd.own_blk (Kd.R_away HO_5.out (fun _ hk => hk.2))) | (show (Addr.add _ _).block ≠ _; rw [add_block]; exact Kd.own_blk (Kd.R_away HO_5.out (fun _ hk => hk.2))) | (dsimp only; exact Kd.own_blk (Kd.R_away HO_5.out (fun _ hk => hk.2)))) _).trans (hHeld.2.1)))), ((cell_far (p := ⟨gb392, _, none⟩) (by first | exact Kd.own_blk (Kd.R_away HO_5.out (fun _ hk => hk.2)) | (rw [add_block]; exact Kd.own_blk (Kd.R_away HO_5.out (fun _ hk => hk.2))) | (show (Addr.add _ _).block ≠ _; rw [add_block]; exact Kd.own_blk (Kd.R_away HO_5.out (fun _ hk => hk.2))) | (dsimp only; exact Kd.own_blk (Kd.R_away HO_5.out (fun _ hk => hk.2)))) _).trans (((cell_far (p := ⟨gb392, _, none⟩) (by first | exact Kd.own_blk (Kd.R_away HO_5.out (fun _ hk => hk.2)) | (rw [add_block]; exact Kd.own_blk (Kd.R_away HO_5.out (fun _ hk => hk.2))) | (show (Addr.add _ _).block ≠ _; rw [add_block]; exact Kd.own_blk (Kd.R_away HO_5.out (fun _ hk => hk.2))) | (dsimp only; exact Kd.own_blk (Kd.R_away HO_5.out (fun _ hk => hk.2)))) _).trans (hHeld.2.2.1)))), ((cell_far (p := ⟨gb392, _, none⟩) (by first | exact Kd.own_blk (Kd.R_away HO_5.out (fun _ hk => hk.2)) | (rw [add_block]; exact Kd.own_blk (Kd.R_away HO_5.out (fun _ hk => hk.2))) | (show (Addr.add _ _).block ≠ _; rw [add_block]; exact Kd.own_blk (Kd.R_away HO_5.out (fun _ hk => hk.2))) | (dsimp only; exact Kd.own_blk (Kd.R_away HO_5.out (fun _ hk => hk.2)))) _).trans (((cell_far (p := ⟨gb392, _, none⟩) (by first | exact Kd.own_blk (Kd.R_away HO_5.out (fun _ hk => hk.2)) | (rw [add_block]; exact Kd.own_blk (Kd.R_away HO_5.out (fun _ hk => hk.2))) | (show (Addr.add _ _).block ≠ _; rw [add_block]; exact Kd.own_blk (Kd.R_away HO_5.out (fun _ hk => hk.2))) | (dsimp only; exact Kd.own_blk (Kd.R_away HO_5.out (fun _ hk => hk.2)))) _).trans (hHeld.2.2.2))))⟩ (fun hHeld => ?_)
              clear hK K
              refine done_ (done_of HT_.out (by kernel_rfl)) ?_
              have n0_ : Aside0 (Kd.R k34 34 ((((w24.setCell ⟨gb391, 0, none⟩ (.string ((rd_T34 x5_2 (ji12)).f0))).setCell ⟨gb391, 1, none⟩ (.string ((rd_T34 x5_2 (ji12)).f1))).setCell ⟨gb392, 0, none⟩ (.string ((rd_T34 x5_2 x7_2).f0))).setCell ⟨gb392, 1, none⟩ (.string ((rd_T34 x5_2 x7_2).f1))) w.heap.size (fun k_ => k_ ≠ gb391 ∧ k_ ≠ gb392) (.slice (some ad386) x5_2.length co8) x5_2) := ⟨by (with_reducible repeat (first | apply Kd.R_alloc | apply Kd.R_drewN | apply Kd.R_drew)); exact Kd.R_mono (Kd.R_far (p := ⟨gb392, 1, none⟩) (Kd.R_far (p := ⟨gb392, 0, none⟩) (Kd.R_far (p := ⟨gb391, 1, none⟩) (Kd.R_far (p := ⟨gb391, 0, none⟩) (Kd.R_mono (Kd.R_mono HO_5.out (fun k_ hk => (⟨hk, hk.1⟩ : _ ∧ k_ ≠ gb391))) (fun k_ hk => (⟨hk, hk.1.2⟩ : _ ∧ k_ ≠ gb392))) (fun _ hk => hk.1.2) (.string ((rd_T34 x5_2 (ji12)).f0))) (fun _ hk => hk.1.2) (.string ((rd_T34 x5_2 (ji12)).f1))) (fun _ hk => hk.2) (.string ((rd_T34 x5_2 x7_2).f0))) (fun _ hk => hk.2) (.string ((rd_T34 x5_2 x7_2).f1))) (fun _ hk => ⟨hk.1.1.1, hk.1.1.2⟩)⟩
              have n1_ : Aside0 (((((w24.setCell ⟨gb391, 0, none⟩ (.string ((rd_T34 x5_2 (ji12)).f0))).setCell ⟨gb391, 1, none⟩ (.string ((rd_T34 x5_2 (ji12)).f1))).setCell ⟨gb392, 0, none⟩ (.string ((rd_T34 x5_2 x7_2).f0))).setCell ⟨gb392, 1, none⟩ (.string ((rd_T34 x5_2 x7_2).f1))).heap[gb381]? = some (.cells #[.slice A0_0 l0_0.length c0_0, .slice A0_1 l0_1.length c0_1] 28 (0, 0))) := ⟨by (with_reducible repeat (first | refine blk_drewN ?_ _ | refine blk_drew ?_ | refine blk_alloc ?_ _)); refine blk_far ?_ NB381_392.out _; (with_reducible repeat (first | refine blk_drewN ?_ _ | refine blk_drew ?_ | refine blk_alloc ?_ _)); refine blk_far ?_ NB381_392.out _; (with_reducible repeat (first | refine blk_drewN ?_ _ | refine blk_drew ?_ | refine blk_alloc ?_ _)); refine blk_far ?_ NB381_391.out _; (with_reducible repeat (first | refine blk_drewN ?_ _ | refine blk_drew ?_ | refine blk_alloc ?_ _)); refine blk_far ?_ NB381_391.out _; (with_reducible repeat (first | refine blk_drewN ?_ _ | refine blk_drew ?_ | refine blk_alloc ?_ _)); exact BK381.out⟩
              have n2_ : Aside0 (((((w24.setCell ⟨gb391, 0, none⟩ (.string ((rd_T34 x5_2 (ji12)).f0))).setCell ⟨gb391, 1, none⟩ (.string ((rd_T34 x5_2 (ji12)).f1))).setCell ⟨gb392, 0, none⟩ (.string ((rd_T34 x5_2 x7_2).f0))).setCell ⟨gb392, 1, none⟩ (.string ((rd_T34 x5_2 x7_2).f1))).heap[gb391]? = some (.cells #[.string ((rd_T34 x5_2 (ji12)).f0), .string ((rd_T34 x5_2 (ji12)).f1)] 34 (0, 0))) := ⟨by (with_reducible repeat (first | refine blk_drewN ?_ _ | refine blk_drew ?_ | refine blk_alloc ?_ _)); refine blk_far ?_ NB391_392.out _; (with_reducible repeat (first | refine blk_drewN ?_ _ | refine blk_drew ?_ | refine blk_alloc ?_ _)); refine blk_far ?_ NB391_392.out _; (with_reducible repeat (first | refine blk_drewN ?_ _ | refine blk_drew ?_ | refine blk_alloc ?_ _)); refine blk_put (cs := #[.string ((rd_T34 x5_2 (ji12)).f0), .string (⟨#[]⟩ : ByteArray)]) ?_ 1 _ rfl; (with_reducible repeat (first | refine blk_drewN ?_ _ | refine blk_drew ?_ | refine blk_alloc ?_ _)); refine blk_put (cs := #[.string (⟨#[]⟩ : ByteArray), .string (⟨#[]⟩ : ByteArray)]) ?_ 0 _ rfl; (with_reducible repeat (first | refine blk_drewN ?_ _ | refine blk_drew ?_ | refine blk_alloc ?_ _)); exact BK391.out⟩
              have n3_ : Aside0 (((((w24.setCell ⟨gb391, 0, none⟩ (.string ((rd_T34 x5_2 (ji12)).f0))).setCell ⟨gb391, 1, none⟩ (.string ((rd_T34 x5_2 (ji12)).f1))).setCell ⟨gb392, 0, none⟩ (.string ((rd_T34 x5_2 x7_2).f0))).setCell ⟨gb392, 1, none⟩ (.string ((rd_T34 x5_2 x7_2).f1))).heap[gb392]? = some (.cells #[.string ((rd_T34 x5_2 x7_2).f0), .string ((rd_T34 x5_2 x7_2).f1)] 34 (0, 0))) := ⟨by (with_reducible repeat (first | refine blk_drewN ?_ _ | refine blk_drew ?_ | refine blk_alloc ?_ _)); refine blk_put (cs := #[.string ((rd_T34 x5_2 x7_2).f0), .string (⟨#[]⟩ : ByteArray)]) ?_ 1 _ rfl; (with_reducible repeat (first | refine blk_drewN ?_ _ | refine blk_drew ?_ | refine blk_alloc ?_ _)); refine blk_put (cs := #[.string (⟨#[]⟩ : ByteArray), .string (⟨#[]⟩ : ByteArray)]) ?_ 0 _ rfl; (with_reducible repeat (first | refine blk_drewN ?_ _ | refine blk_drew ?_ | refine blk_alloc ?_ _)); refine blk_far ?_ NB392_391.out _; (with_reducible repeat (first | refine blk_drewN ?_ _ | refine blk_drew ?_ | refine blk_alloc ?_ _)); refine blk_far ?_ NB392_391.out _; (with_reducible repeat (first | refine blk_drewN ?_ _ | refine blk_drew ?_ | refine blk_alloc ?_ _)); exact BK392.out⟩
              have n4_ : Aside0 (Below w.heap.size w ((((w24.setCell ⟨gb391, 0, none⟩ (.string ((rd_T34 x5_2 (ji12)).f0))).setCell ⟨gb391, 1, none⟩ (.string ((rd_T34 x5_2 (ji12)).f1))).setCell ⟨gb392, 0, none⟩ (.string ((rd_T34 x5_2 x7_2).f0))).setCell ⟨gb392, 1, none⟩ (.string ((rd_T34 x5_2 x7_2).f1)))) := ⟨(fB3 GE381 GE391 GE392)⟩
              (try clear HO_5)
              (try clear BK381)
              (try clear BK391)
              (try clear BK392)
              (try clear HB)
              generalize ((((w24.setCell ⟨gb391, 0, none⟩ (.string ((rd_T34 x5_2 (ji12)).f0))).setCell ⟨gb391, 1, none⟩ (.string ((rd_T34 x5_2 (ji12)).f1))).setCell ⟨gb392, 0, none⟩ (.string ((rd_T34 x5_2 x7_2).f0))).setCell ⟨gb392, 1, none⟩ (.string ((rd_T34 x5_2 x7_2).f1))) = w29 at n0_ n1_ n2_ n3_ n4_ ⊢
              have HO_5 := n0_
              have BK381 := n1_
              have BK391 := n2_
              have BK392 := n3_
              have HB := n4_
              clear n0_ n1_ n2_ n3_ n4_
              have hnb30 := NB392_381.out
              have hnc30 := NB381_392.out
              have hnb31 := NB392_391.out
              have hnc31 := NB391_392.out
              have hcz32_0 : w29.cell? ⟨gb392, 0, none⟩ = some (.string ((rd_T34 x5_2 x7_2).f0)) := (blk_cell BK392.out 0).trans rfl
              have hcz32_1 : w29.cell? ⟨gb392, 1, none⟩ = some (.string ((rd_T34 x5_2 x7_2).f1)) := (blk_cell BK392.out 1).trans rfl
              have hfz32_0 := blk_frozen BK392.out 0
              have hfz32_1 := blk_frozen BK392.out 1
              have p17 : 0 ≤ ((ji12) : Int) := of_decide_eq_true (by first | (with_reducible assumption) | assumption)
              have q17 : ((ji12) : Int) < ((x5_2.length : Int) : Int) := of_decide_eq_true (by first | (with_reducible assumption) | assumption)
              obtain ⟨go17, co17, eo17, gb17, gl17, cl17, HG17⟩ := Kd.R_form HO_5.out (by omega)
              (first | cases eo17 | (injection eo17 with ea_ en_ ec_; (first | subst ea_ | (injection ea_ with ea_; subst ea_)); subst ec_; clear en_))
              have GB17 := Aside0.mk gb17
              have GG17 := Aside0.mk HG17
              clear gb17 gl17 HG17
              (first | simp only [add_plain] at hx386_0 | skip)
              (first | simp only [add_plain] at hx386_1 | skip)
              (first | simp only [add_plain] at hx387_0 | skip)
              (first | simp only [add_plain] at hx387_1 | skip)
              (first | simp only [add_plain] at hx389_0 | skip)
              (first | simp only [add_plain] at hx389_1 | skip)
              (first | simp only [add_plain] at hx390_0 | skip)
              (first | simp only [add_plain] at hx390_1 | skip)
              obtain ⟨ce17, hcl17, hM17, hcc17, hfr17⟩ := Kd.R_elem HO_5.out z34 ((ji12) : Int) p17 q17
              obtain rfl := k34_openM hM17
              have hx17_0 : w29.cell? ⟨go17, ((ji12) : Int).toNat * 2, none⟩ = some (.string ((rd_T34 x5_2 (ji12)).f0)) := hcc17 0 _ rfl
              have hx17_1 : w29.cell? ⟨go17, ((ji12) : Int).toNat * 2 + 1, none⟩ = some (.string ((rd_T34 x5_2 (ji12)).f1)) := hcc17 1 _ rfl
              have hf17_0 : w29.frozen? ⟨go17, ((ji12) : Int).toNat * 2, none⟩ = false := hfr17 0
              have hf17_1 : w29.frozen? ⟨go17, ((ji12) : Int).toNat * 2 + 1, none⟩ = false := hfr17 1
              clear hcl17 hcc17 hfr17 hM17
              replace p17 := eq_true p17
              replace q17 := eq_true q17
              have HX33 := Aside0.mk (show Kd.R k34 34 w29 w.heap.size (fun k_ => k_ ≠ gb391 ∧ k_ ≠ gb392) (.slice (some ⟨go17, 0, none⟩) x5_2.length co8) x5_2 from (fA0 HO_5))
              obtain ⟨ce33, hcl33, hM33, hcc33, hfr33⟩ := Kd.R_elem HX33.out z34 ((ji12) : Int) (of_decide_eq_true (by first | (with_reducible assumption) | assumption)) (by have h_ : ((ji12) : Int) < ((x5_2.length : Int) : Int) := of_decide_eq_true (by first | (with_reducible assumption) | assumption); first | exact h_ | (have e_ := (Kd.R_reads' HO_5.out).1; omega) | simpa using h_)
              obtain rfl := k34_openM hM33
              have HP33 := Kd.R_seg HX33.out ((ji12) : Int) (of_decide_eq_true (by first | (with_reducible assumption) | assumption)) (by have h_ : ((ji12) : Int) < ((x5_2.length : Int) : Int) := of_decide_eq_true (by first | (with_reducible assumption) | assumption); first | exact h_ | (have e_ := (Kd.R_reads' HO_5.out).1; omega) | simpa using h_) (seg := [.string ((rd_T34 x5_2 x7_2).f0), .string ((rd_T34 x5_2 x7_2).f1)]) (j := 0) hcl33 hcc33 (show 2 ≤ 2 from by decide) (x' := (⟨(rd_T34 x5_2 x7_2).f0, (rd_T34 x5_2 x7_2).f1⟩ : S34)) (k34_mkM _ _ _ (⟨(rd_T34 x5_2 x7_2).f0, (rd_T34 x5_2 x7_2).f1⟩ : S34) ) (fun _ hk => hk)
              have hx33_0 := hcc33 0 _ rfl
              (try simp only [show (k34).sz = 2 from rfl, Nat.mul_one, Nat.add_zero] at hx33_0)
              have hf33_0 := hfr33 0
              (try simp only [show (k34).sz = 2 from rfl, Nat.mul_one, Nat.add_zero] at hf33_0)
              have hx33_1 := hcc33 1 _ rfl
              (try simp only [show (k34).sz = 2 from rfl, Nat.mul_one, Nat.add_zero] at hx33_1)
              have hf33_1 := hfr33 1
              (try simp only [show (k34).sz = 2 from rfl, Nat.mul_one, Nat.add_zero] at hf33_1)
              clear hcl33 hcc33 hfr33 hM33
              try go_wp2_with (first | ((with_reducible refine gate_store (t := 34) (p := 56) rfl ?_); refine store_event (t := 34) (p := 56) (v := ?vo_w34) (w1 := ((w29.setCell ⟨go17, ((ji12) : Int).toNat * 2, none⟩ (.string ((rd_T34 x5_2 x7_2).f0))).setCell ⟨go17, ((ji12) : Int).toNat * 2 + 1, none⟩ (.string ((rd_T34 x5_2 x7_2).f1)))) ?hg ?ho ?hn ?hr ?_; (case ho => rfl); (case hg => rfl); (case hn => rfl); (case hr => first | (go_simp; done) | (go_simp; rfl)); intro w34 hw; have hg : w29.grownBy w34 (some go17) := (by rw [hw]; exact HP33.2); have hp_ : Kd.R k34 34 w34 w.heap.size (fun k_ => k_ ≠ gb391 ∧ k_ ≠ gb392) (.slice (some ⟨go17, 0, none⟩) x5_2.length co8) y393 := (by rw [hw, Ny393.out]; exact HP33.1); clear HP33; have n0_ := Aside0.mk (hp_); have n1_ := Aside0.mk (blk_grown (g := gb381) (o := .cells #[.slice A0_0 l0_0.length c0_0, .slice A0_1 l0_1.length c0_1] 28 (0, 0)) (fA1 BK381) hg (Kd.R_ne HO_5.out BK381.out (by decide))); have n2_ := Aside0.mk (blk_grown (g := gb391) (o := .cells #[.string ((rd_T34 x5_2 (ji12)).f0), .string ((rd_T34 x5_2 (ji12)).f1)] 34 (0, 0)) (fA1 BK391) hg (Kd.R_away HO_5.out (fun _ hk => hk.1))); have n3_ := Aside0.mk (blk_grown (g := gb392) (o := .cells #[.string ((rd_T34 x5_2 x7_2).f0), .string ((rd_T34 x5_2 x7_2).f1)] 34 (0, 0)) (fA1 BK392) hg (Kd.R_away HO_5.out (fun _ hk => hk.2))); have n4_ := Aside0.mk ((by rw [hw]; exact below_set (below_set (HB.out) GB17.out) GB17.out : Below w.heap.size w w34)); clear HO_5; clear BK381; clear BK391; clear BK392; clear HB; have HO_5 := n0_; have BK381 := n1_; have BK391 := n2_; have BK392 := n3_; have HB := n4_; clear n0_ n1_ n2_ n3_ n4_; clear hg hw hp_; have hnb35 := NB391_381.out; have hnc35 := NB381_391.out; have hcz36_0 : w34.cell? ⟨gb391, 0, none⟩ = some (.string ((rd_T34 x5_2 (ji12)).f0)) := (blk_cell BK391.out 0).trans rfl; have hcz36_1 : w34.cell? ⟨gb391, 1, none⟩ = some (.string ((rd_T34 x5_2 (ji12)).f1)) := (blk_cell BK391.out 1).trans rfl; have hfz36_0 := blk_frozen BK391.out 0; have hfz36_1 := blk_frozen BK391.out 1; have p18 : 0 ≤ (x7_2 : Int) := of_decide_eq_true (by first | (with_reducible assumption) | assumption); have q18 : (x7_2 : Int) < ((x5_2.length : Int) : Int) := of_decide_eq_true (by first | (with_reducible assumption) | assumption); obtain ⟨ce18, hcl18, hM18, hcc18, hfr18⟩ := Kd.R_elem HO_5.out z34 (x7_2 : Int) p18 q18; obtain rfl := k34_openM hM18; have hx18_0 : w34.cell? ⟨go17, (x7_2 : Int).toNat * 2, none⟩ = some (.string ((rd_T34 y393 x7_2).f0)) := hcc18 0 _ rfl; have hx18_1 : w34.cell? ⟨go17, (x7_2 : Int).toNat * 2 + 1, none⟩ = some (.string ((rd_T34 y393 x7_2).f1)) := hcc18 1 _ rfl; have hf18_0 : w34.frozen? ⟨go17, (x7_2 : Int).toNat * 2, none⟩ = false := hfr18 0; have hf18_1 : w34.frozen? ⟨go17, (x7_2 : Int).toNat * 2 + 1, none⟩ = false := hfr18 1; clear hcl18 hcc18 hfr18 hM18; replace p18 := eq_true p18; replace q18 := eq_true q18; have HX37 := Aside0.mk (show Kd.R k34 34 w34 w.heap.size (fun k_ => k_ ≠ gb391 ∧ k_ ≠ gb392) (.slice (some ⟨go17, 0, none⟩) x5_2.length co8) y393 from (fA0 HO_5)); obtain ⟨ce37, hcl37, hM37, hcc37, hfr37⟩ := Kd.R_elem HX37.out z34 (x7_2 : Int) (of_decide_eq_true (by first | (with_reducible assumption) | assumption)) (by have h_ : (x7_2 : Int) < ((x5_2.length : Int) : Int) := of_decide_eq_true (by first | (with_reducible assumption) | assumption); first | exact h_ | (have e_ := (Kd.R_reads' HO_5.out).1; omega) | simpa using h_); obtain rfl := k34_openM hM37; have HP37 := Kd.R_seg HX37.out (x7_2 : Int) (of_decide_eq_true (by first | (with_reducible assumption) | assumption)) (by have h_ : (x7_2 : Int) < ((x5_2.length : Int) : Int) := of_decide_eq_true (by first | (with_reducible assumption) | assumption); first | exact h_ | (have e_ := (Kd.R_reads' HO_5.out).1; omega) | simpa using h_) (seg := [.string ((rd_T34 x5_2 (ji12)).f0), .string ((rd_T34 x5_2 (ji12)).f1)]) (j := 0) hcl37 hcc37 (show 2 ≤ 2 from by decide) (x' := (⟨(rd_T34 x5_2 (ji12)).f0, (rd_T34 x5_2 (ji12)).f1⟩ : S34)) (k34_mkM _ _ _ (⟨(rd_T34 x5_2 (ji12)).f0, (rd_T34 x5_2 (ji12)).f1⟩ : S34) ) (fun _ hk => hk); have hx37_0 := hcc37 0 _ rfl; (try simp only [show (k34).sz = 2 from rfl, Nat.mul_one, Nat.add_zero] at hx37_0); have hf37_0 := hfr37 0; (try simp only [show (k34).sz = 2 from rfl, Nat.mul_one, Nat.add_zero] at hf37_0); have hx37_1 := hcc37 1 _ rfl; (try simp only [show (k34).sz = 2 from rfl, Nat.mul_one, Nat.add_zero] at hx37_1); have hf37_1 := hfr37 1; (try simp only [show (k34).sz = 2 from rfl, Nat.mul_one, Nat.add_zero] at hf37_1); clear hcl37 hcc37 hfr37 hM37) | ((with_reducible refine gate_store (t := 34) (p := 60) rfl ?_); refine store_event (t := 34) (p := 60) (v := ?vo_w38) (w1 := ((w34.setCell ⟨go17, (x7_2 : Int).toNat * 2, none⟩ (.string ((rd_T34 x5_2 (ji12)).f0))).setCell ⟨go17, (x7_2 : Int).toNat * 2 + 1, none⟩ (.string ((rd_T34 x5_2 (ji12)).f1)))) ?hg ?ho ?hn ?hr ?_; (case ho => rfl); (case hg => rfl); (case hn => rfl); (case hr => first | (go_simp; done) | (go_simp; rfl)); intro w38 hw; have hg : w34.grownBy w38 (some go17) := (by rw [hw]; exact HP37.2); have hp_ : Kd.R k34 34 w38 w.heap.size (fun k_ => k_ ≠ gb391 ∧ k_ ≠ gb392) (.slice (some ⟨go17, 0, none⟩) x5_2.length co8) y394 := (by rw [hw, Ny394.out]; exact HP37.1); clear HP37; have n0_ := Aside0.mk (hp_); have n1_ := Aside0.mk (blk_grown (g := gb381) (o := .cells #[.slice A0_0 l0_0.length c0_0, .slice A0_1 l0_1.length c0_1] 28 (0, 0)) (fA1 BK381) hg (Kd.R_ne HO_5.out BK381.out (by decide))); have n2_ := Aside0.mk (blk_grown (g := gb391) (o := .cells #[.string ((rd_T34 x5_2 (ji12)).f0), .string ((rd_T34 x5_2 (ji12)).f1)] 34 (0, 0)) (fA1 BK391) hg (Kd.R_away HO_5.out (fun _ hk => hk.1))); have n3_ := Aside0.mk (blk_grown (g := gb392) (o := .cells #[.string ((rd_T34 x5_2 x7_2).f0), .string ((rd_T34 x5_2 x7_2).f1)] 34 (0, 0)) (fA1 BK392) hg (Kd.R_away HO_5.out (fun _ hk => hk.2))); have n4_ := Aside0.mk ((by rw [hw]; exact below_set (below_set (HB.out) GB17.out) GB17.out : Below w.heap.size w w38)); clear HO_5; clear BK381; clear BK391; clear BK392; clear HB; have HO_5 := n0_; have BK381 := n1_; have BK391 := n2_; have BK392 := n3_; have HB := n4_; clear n0_ n1_ n2_ n3_ n4_; clear hg hw hp_))
              (try simp only [← hl5_2])
              go_roundg k2
              case measure => have := HK1.out; have := HK2.out; omega
              case rel => exact ⟨(y394), (ji12), (by first | rfl | (simp; done) | (simp only [← hji12] <;> (first | rfl | simp)) | (simp [*]; done)), H', ⟨by have := HK1.out; have := HK2.out; omega⟩, ⟨by (try simp only [hl5_2]); (with_reducible repeat (first | apply Kd.R_alloc | apply Kd.R_drewN | apply Kd.R_drew)); exact Kd.R_mono HO_5.out (fun _ hk => trivial)⟩, ⟨by (try simp only [hl5_2]); (with_reducible repeat (first | refine blk_drewN ?_ _ | refine blk_drew ?_ | refine blk_alloc ?_ _)); exact BK381.out⟩, ⟨(fB3 GE381 GE391 GE392)⟩⟩
             ·replace c16 := Bool.eq_false_iff.mpr c16
              subst c16
              rw [if_neg (show ¬ (false = true) by decide)] at H
              have H' := Aside0.mk H
              clear H
              try go_wp2
              have n0_ := Aside0.mk (Kd.R_drew HO_5.out)
              have n1_ := Aside0.mk (blk_drew BK381.out)
              have n2_ := Aside0.mk (below_drew1 HB.out)
              clear HO_5
              clear BK381
              clear HB
              have HO_5 := n0_
              have BK381 := n1_
              have HB := n2_
              clear n0_ n1_ n2_
              have p386 : 0 ≤ (x7_2 : Int) := of_decide_eq_true (by first | (with_reducible assumption) | assumption)
              have q386 : x7_2 < (x5_2.length : Int) := of_decide_eq_true (by first | (with_reducible assumption) | assumption)
              obtain ⟨ad386, e386, hx386_0, hx386_1⟩ := at_T34 (Kd.R_reads' HO_5.out).2.2 x7_2 p386 q386
              cases e386
              replace p386 := eq_true p386
              replace q386 := eq_true q386
              have p387 : 0 ≤ ((ji12) : Int) := of_decide_eq_true (by first | (with_reducible assumption) | assumption)
              have q387 : (ji12) < (x5_2.length : Int) := of_decide_eq_true (by first | (with_reducible assumption) | assumption)
              obtain ⟨ad387, e387, hx387_0, hx387_1⟩ := at_T34 (Kd.R_reads' HO_5.out).2.2 (ji12) p387 q387
              obtain rfl : ad386 = ad387 := (by injection e387)
              replace p387 := eq_true p387
              replace q387 := eq_true q387
              refine start_ (n := 15) (S := fun w' => w'.cell? ⟨gb381, 0, none⟩ = some (.slice A0_0 l0_0.length c0_0) ∧ w'.cell? ⟨gb381, 1, none⟩ = some (.slice A0_1 l0_1.length c0_1) ∧ w'.cell? (ad386.add ((x7_2).toNat * 2)) = some (.string ((rd_T34 x5_2 x7_2).f0)) ∧ w'.cell? ⟨(ad386.add ((x7_2).toNat * 2)).block, (ad386.add ((x7_2).toNat * 2)).off + 1, none⟩ = some (.string ((rd_T34 x5_2 x7_2).f1)) ∧ w'.cell? (ad386.add (((ji12)).toNat * 2)) = some (.string ((rd_T34 x5_2 (ji12)).f0)) ∧ w'.cell? ⟨(ad386.add (((ji12)).toNat * 2)).block, (ad386.add (((ji12)).toNat * 2)).off + 1, none⟩ = some (.string ((rd_T34 x5_2 (ji12)).f1))) (ds := []) #[false, false, false, false, false, false, false, false, false, false, false, false, false, false, false] (by kernel_rfl) rfl rfl ⟨(blk_cell BK381.out 0).trans rfl, (blk_cell BK381.out 1).trans rfl, hx386_0, hx386_1, hx387_0, hx387_1⟩ (fun hHeld => ?_); refine with_tabW conciergeref15_Sort.tab7 conciergeref15_Sort.bits7 (fun HT_ HW_ => ?_)
              generalize wr.drew = w39 at HO_5 BK381 HB hx386_0 hx386_1 hx387_0 hx387_1 hHeld ⊢
              refine pure_ (i := 0) (N := some 26) (v := ?_) (a' := ?_) #[true, false, false, false, false, false, false, false, false, false, false, false, false, false, false] rfl rfl (any_of HT_.out (by kernel_rfl)) (fun _ _ _ h => h) (Or.inl ⟨by rfl, ?_⟩) ?_ ?_
              rotate_left
              ·intro w'
               go_simp
               with_reducible rfl
              rotate_left
              ·simp only [Act.put, List.setIfInBounds_toArray, List.set_cons_zero, List.set_cons_succ, i64_w, i32_w]
               rfl
              refine pure_ (i := 1) (N := some 27) (v := ?_) (a' := ?_) #[true, true, false, false, false, false, false, false, false, false, false, false, false, false, false] rfl rfl (any_of HT_.out (by kernel_rfl)) (fun _ _ _ h => h) (Or.inl ⟨by rfl, ?_⟩) ?_ ?_
              rotate_left
              ·intro w'
               go_simp
               with_reducible rfl
              rotate_left
              ·simp only [Act.put, List.setIfInBounds_toArray, List.set_cons_zero, List.set_cons_succ, i64_w, i32_w]
               rfl
              refine pure_ (i := 2) (N := some 28) (v := ?_) (a' := ?_) #[true, true, true, false, false, false, false, false, false, false, false, false, false, false, false] rfl rfl (any_of HT_.out (by kernel_rfl)) (fun _ _ _ h => h) (Or.inl ⟨by rfl, ?_⟩) ?_ ?_
              rotate_left
              ·intro w'
               go_simp
               with_reducible rfl
              rotate_left
              ·simp only [Act.put, List.setIfInBounds_toArray, List.set_cons_zero, List.set_cons_succ, i64_w, i32_w]
               rfl
              refine pure_ (i := 4) (N := some 30) (v := ?_) (a' := ?_) #[true, true, true, false, true, false, false, false, false, false, false, false, false, false, false] rfl rfl (any_of HT_.out (by kernel_rfl)) (fun _ _ _ h => h) (Or.inl ⟨by rfl, ?_⟩) ?_ ?_
              rotate_left
              ·intro w'
               go_simp
               with_reducible rfl
              rotate_left
              ·simp only [Act.put, List.setIfInBounds_toArray, List.set_cons_zero, List.set_cons_succ, i64_w, i32_w]
               rfl
              refine pure_ (i := 5) (N := some 31) (v := ?_) (a' := ?_) #[true, true, true, false, true, true, false, false, false, false, false, false, false, false, false] rfl rfl (any_of HT_.out (by kernel_rfl)) (fun _ _ _ h => h) (Or.inl ⟨by rfl, ?_⟩) ?_ ?_
              rotate_left
              ·intro w'
               go_simp
               with_reducible rfl
              rotate_left
              ·simp only [Act.put, List.setIfInBounds_toArray, List.set_cons_zero, List.set_cons_succ, i64_w, i32_w]
               rfl
              refine pure_ (i := 6) (N := some 32) (v := ?_) (a' := ?_) #[true, true, true, false, true, true, true, false, false, false, false, false, false, false, false] rfl rfl (any_of HT_.out (by kernel_rfl)) (fun _ _ _ h => h) (Or.inl ⟨by rfl, ?_⟩) ?_ ?_
              rotate_left
              ·intro w'
               go_simp
               with_reducible rfl
              rotate_left
              ·simp only [Act.put, List.setIfInBounds_toArray, List.set_cons_zero, List.set_cons_succ, i64_w, i32_w]
               rfl
              refine pure_ (i := 8) (N := some 34) (v := ?_) (a' := ?_) #[true, true, true, false, true, true, true, false, true, false, false, false, false, false, false] rfl rfl (any_of HT_.out (by kernel_rfl)) (fun _ _ _ h => h) (Or.inl ⟨by rfl, ?_⟩) ?_ ?_
              rotate_left
              ·intro w'
               go_simp
               with_reducible rfl
              rotate_left
              ·simp only [Act.put, List.setIfInBounds_toArray, List.set_cons_zero, List.set_cons_succ, i64_w, i32_w]
               rfl
              refine pure_ (i := 9) (N := some 35) (v := ?_) (a' := ?_) #[true, true, true, false, true, true, true, false, true, true, false, false, false, false, false] rfl rfl (any_of HT_.out (by kernel_rfl)) (fun _ _ _ h => h) (Or.inl ⟨by rfl, ?_⟩) ?_ ?_
              rotate_left
              ·intro w'
               go_simp
               with_reducible rfl
              rotate_left
              ·simp only [Act.put, List.setIfInBounds_toArray, List.set_cons_zero, List.set_cons_succ, i64_w, i32_w]
               rfl
              refine pure_ (i := 10) (N := some 36) (v := ?_) (a' := ?_) #[true, true, true, false, true, true, true, false, true, true, true, false, false, false, false] rfl rfl (any_of HT_.out (by kernel_rfl)) (fun _ _ _ h => h) (Or.inl ⟨by rfl, ?_⟩) ?_ ?_
              rotate_left
              ·intro w'
               go_simp
               with_reducible rfl
              rotate_left
              ·simp only [Act.put, List.setIfInBounds_toArray, List.set_cons_zero, List.set_cons_succ, i64_w, i32_w]
               rfl
              refine pure_ (i := 11) (N := some 37) (v := ?_) (a' := ?_) #[true, true, true, false, true, true, true, false, true, true, true, true, false, false, false] rfl rfl (any_of HT_.out (by kernel_rfl)) (fun _ _ _ h => h) (Or.inl ⟨by rfl, ?_⟩) ?_ ?_
              rotate_left
              ·intro w'
               go_simp
               with_reducible rfl
              rotate_left
              ·simp only [Act.put, List.setIfInBounds_toArray, List.set_cons_zero, List.set_cons_succ, i64_w, i32_w]
               rfl
              refine take_ (i := 3) (N := some 29) (v := ?_) (a' := ?_) #[true, true, true, true, true, true, true, false, true, true, true, true, false, false, false] rfl rfl (take_ofW HT_.out HW_.out (by kernel_rfl)) (fun _ _ _ h => h) (Or.inl ⟨by rfl, ?_⟩) hHeld ?_ ?_
              rotate_left
              ·rintro w' ⟨s0, s1, s2, s3, s4, s5⟩
               go_simp
               with_reducible rfl
              rotate_left
              ·simp only [Act.put, List.setIfInBounds_toArray, List.set_cons_zero, List.set_cons_succ, i64_w, i32_w]
               rfl
              refine take_ (i := 7) (N := some 33) (v := ?_) (a' := ?_) #[true, true, true, true, true, true, true, true, true, true, true, true, false, false, false] rfl rfl (take_ofW HT_.out HW_.out (by kernel_rfl)) (fun _ _ _ h => h) (Or.inl ⟨by rfl, ?_⟩) hHeld ?_ ?_
              rotate_left
              ·rintro w' ⟨s0, s1, s2, s3, s4, s5⟩
               go_simp
               with_reducible rfl
              rotate_left
              ·simp only [Act.put, List.setIfInBounds_toArray, List.set_cons_zero, List.set_cons_succ, i64_w, i32_w]
               rfl
              refine take_ (i := 12) (N := some 38) (v := ?_) (a' := ?_) #[true, true, true, true, true, true, true, true, true, true, true, true, true, false, false] rfl rfl (take_ofW HT_.out HW_.out (by kernel_rfl)) (fun _ _ _ h => h) (Or.inl ⟨by rfl, ?_⟩) hHeld ?_ ?_
              rotate_left
              ·rintro w' ⟨s0, s1, s2, s3, s4, s5⟩
               go_simp
               with_reducible rfl
              rotate_left
              ·simp only [Act.put, List.setIfInBounds_toArray, List.set_cons_zero, List.set_cons_succ, i64_w, i32_w]
               rfl
              refine one_ (i := 13) (N := some 39) #[true, true, true, true, true, true, true, true, true, true, true, true, true, true, false] rfl rfl (one_of HT_.out (by kernel_rfl)) (by decide) (fun K hK => ?_)
              refine goes_ Try.func28 (by kernel_rfl) rfl #[.agg #[.slice A0_0 l0_0.length c0_0, .slice A0_1 l0_1.length c0_1], .agg #[.string ((rd_T34 x5_2 x7_2).f0), .string ((rd_T34 x5_2 x7_2).f1)], .agg #[.string ((rd_T34 x5_2 (ji12)).f0), .string ((rd_T34 x5_2 (ji12)).f1)]] (by rfl) rfl rfl (by (try simp only [List.map_toArray, List.map_cons, List.map_nil]); first | done | (simp only [hji12]; rfl) | rfl | (simp only [List.length_drop, List.length_take]; rfl)) ?_
              with_reducible refine (conciergeref15_Less.calls k2 _ _ l0_0 _ _ l0_1 ((rd_T34 x5_2 x7_2).f0) ((rd_T34 x5_2 x7_2).f1) ((rd_T34 x5_2 (ji12)).f0) ((rd_T34 x5_2 (ji12)).f1) false _ ?side1 ?side2 ?side3 ?side4 A15.out).mono ?_
              (case side1 => repeat (first | exact (Kd.C_below HR0_0.out HB.out) | (with_reducible refine Kd.C_alloc ?_ _) | (with_reducible refine Kd.C_drewN ?_ _) | (with_reducible refine Kd.C_drew ?_)))
              (case side2 => exact HC0_0.out)
              (case side3 => repeat (first | exact (Kd.C_below HR0_1.out HB.out) | (with_reducible refine Kd.C_alloc ?_ _) | (with_reducible refine Kd.C_drewN ?_ _) | (with_reducible refine Kd.C_drew ?_)))
              (case side4 => exact HC0_1.out)
              rintro e w40 ⟨rfl, hb⟩
              have HS2_ := (hb.cell (World.block_lt_of_cell? _ _ (hHeld.2.2.1))).trans (hHeld.2.2.1)
              have HS3_ := (hb.cell (World.block_lt_of_cell? _ _ (hHeld.2.2.2.1))).trans (hHeld.2.2.2.1)
              have HS4_ := (hb.cell (World.block_lt_of_cell? _ _ (hHeld.2.2.2.2.1))).trans (hHeld.2.2.2.2.1)
              have HS5_ := (hb.cell (World.block_lt_of_cell? _ _ (hHeld.2.2.2.2.2))).trans (hHeld.2.2.2.2.2)
              refine ⟨_, rfl, ?_⟩
              have n0_ := Aside0.mk (Kd.R_below (fA0 HO_5) hb)
              have n1_ := Aside0.mk (blk_below (g := gb381) (o := .cells #[.slice A0_0 l0_0.length c0_0, .slice A0_1 l0_1.length c0_1] 28 (0, 0)) (fA1 BK381) hb)
              have n2_ := Aside0.mk (below_step (fB1 GE381) hb)
              clear HO_5
              clear BK381
              clear HB
              have HO_5 := n0_
              have BK381 := n1_
              have HB := n2_
              clear n0_ n1_ n2_
              (try clear hb)
              (try clear hb2)
              (try clear hk)
              (try clear hi)
              refine hK.out _ _ ⟨(blk_cell BK381.out 0).trans rfl, (blk_cell BK381.out 1).trans rfl, HS2_, HS3_, HS4_, HS5_⟩ (fun hHeld => ?_)
              clear hK K
              refine norm_ (a' := ?_) ?_ ?_
              rotate_left
              ·show Act.put _ (some 39) _ = _
               simp only [Act.put, List.setIfInBounds_toArray, List.set_cons_zero, List.set_cons_succ, i64_w, i32_w]
               rfl
              refine pure_ (i := 14) (N := some 40) (v := ?_) (a' := ?_) #[true, true, true, true, true, true, true, true, true, true, true, true, true, true, true] rfl rfl (any_of HT_.out (by kernel_rfl)) (fun _ _ _ h => h) (Or.inl ⟨by rfl, ?_⟩) ?_ ?_
              rotate_left
              ·intro w'
               go_simp
               with_reducible rfl
              rotate_left
              ·simp only [Act.put, List.setIfInBounds_toArray, List.set_cons_zero, List.set_cons_succ, i64_w, i32_w]
               rfl
              refine done_ (done_of HT_.out (by kernel_rfl)) ?_
              try go_wp2
              (try simp only [← hl5_2])
              go_roundg k2
              case measure => have := HK1.out; have := HK2.out; omega
              case rel => exact ⟨(x5_2), (wrap64 (x6_1 + 1)), s1_, H', ⟨by have := HK1.out; have := HK2.out; omega⟩, ⟨by (try simp only [hl5_2]); (with_reducible repeat (first | apply Kd.R_alloc | apply Kd.R_drewN | apply Kd.R_drew)); exact HO_5.out⟩, ⟨by (try simp only [hl5_2]); (with_reducible repeat (first | refine blk_drewN ?_ _ | refine blk_drew ?_ | refine blk_alloc ?_ _)); exact BK381.out⟩, ⟨(fB1 GE381)⟩⟩
            ·rw [if_neg c14] at H
             exact absurd H (by simp)
           ·rw [if_neg c13] at H
            exact absurd H (by simp)
          ·rw [if_neg c11] at H
           exact absurd H (by simp)
         ·rw [if_neg c10] at H
          exact absurd H (by simp)
        ·rw [if_neg c9] at H
         have c9b0 : decide (0 < x7_2) = false := decide_eq_false c9
         clear c9
         have H' := Aside0.mk H
         clear H
         try go_wp2
         have n0_ := Aside0.mk (Kd.R_drew HO_5.out)
         have n1_ := Aside0.mk (blk_drew BK381.out)
         have n2_ := Aside0.mk (below_drew1 HB.out)
         clear HO_5
         clear BK381
         clear HB
         have HO_5 := n0_
         have BK381 := n1_
         have HB := n2_
         clear n0_ n1_ n2_
         refine start_ (n := 15) (S := fun w' => True) (ds := []) #[false, false, false, false, false, false, false, false, false, false, false, false, false, false, false] (by kernel_rfl) rfl rfl trivial (fun hHeld => ?_); refine with_tabW conciergeref15_Sort.tab7 conciergeref15_Sort.bits7 (fun HT_ HW_ => ?_)
         generalize wr.drew = w41 at HO_5 BK381 HB hHeld ⊢
         refine pure_ (i := 0) (N := some 26) (v := ?_) (a' := ?_) #[true, false, false, false, false, false, false, false, false, false, false, false, false, false, false] rfl rfl (any_of HT_.out (by kernel_rfl)) (fun _ _ _ h => h) (Or.inl ⟨by rfl, ?_⟩) ?_ ?_
         rotate_left
         ·intro w'
          go_simp
          with_reducible rfl
         rotate_left
         ·simp only [Act.put, List.setIfInBounds_toArray, List.set_cons_zero, List.set_cons_succ, i64_w, i32_w]
          rfl
         refine pure_ (i := 1) (N := some 27) (v := ?_) (a' := ?_) #[true, true, false, false, false, false, false, false, false, false, false, false, false, false, false] rfl rfl (any_of HT_.out (by kernel_rfl)) (fun _ _ _ h => h) (Or.inl ⟨by rfl, ?_⟩) ?_ ?_
         rotate_left
         ·intro w'
          go_simp
          with_reducible rfl
         rotate_left
         ·simp only [Act.put, List.setIfInBounds_toArray, List.set_cons_zero, List.set_cons_succ, i64_w, i32_w]
          rfl
         refine pure_ (i := 2) (N := some 28) (v := ?_) (a' := ?_) #[true, true, true, false, false, false, false, false, false, false, false, false, false, false, false] rfl rfl (any_of HT_.out (by kernel_rfl)) (fun _ _ _ h => h) (Or.inl ⟨by rfl, ?_⟩) ?_ ?_
         rotate_left
         ·intro w'
          go_simp
          with_reducible rfl
         rotate_left
         ·simp only [Act.put, List.setIfInBounds_toArray, List.set_cons_zero, List.set_cons_succ, i64_w, i32_w]
          rfl
         refine pure_ (i := 3) (N := some 29) (v := undef) (a' := ?_) #[true, true, true, true, false, false, false, false, false, false, false, false, false, false, false] rfl rfl (any_of HT_.out (by kernel_rfl)) (fun _ _ _ h => h) (Or.inr ⟨by rfl, rfl⟩) ?_ ?_
         rotate_left
         ·simp only [Act.put, List.setIfInBounds_toArray, List.set_cons_zero, List.set_cons_succ, i64_w, i32_w]
          rfl
         refine pure_ (i := 4) (N := some 30) (v := undef) (a' := ?_) #[true, true, true, true, true, false, false, false, false, false, false, false, false, false, false] rfl rfl (any_of HT_.out (by kernel_rfl)) (fun _ _ _ h => h) (Or.inr ⟨by rfl, rfl⟩) ?_ ?_
         rotate_left
         ·simp only [Act.put, List.setIfInBounds_toArray, List.set_cons_zero, List.set_cons_succ, i64_w, i32_w]
          rfl
         refine pure_ (i := 5) (N := some 31) (v := undef) (a' := ?_) #[true, true, true, true, true, true, false, false, false, false, false, false, false, false, false] rfl rfl (any_of HT_.out (by kernel_rfl)) (fun _ _ _ h => h) (Or.inr ⟨by rfl, rfl⟩) ?_ ?_
         rotate_left
         ·simp only [Act.put, List.setIfInBounds_toArray, List.set_cons_zero, List.set_cons_succ, i64_w, i32_w]
          rfl
         refine pure_ (i := 6) (N := some 32) (v := undef) (a' := ?_) #[true, true, true, true, true, true, true, false, false, false, false, false, false, false, false] rfl rfl (any_of HT_.out (by kernel_rfl)) (fun _ _ _ h => h) (Or.inr ⟨by rfl, rfl⟩) ?_ ?_
         rotate_left
         ·simp only [Act.put, List.setIfInBounds_toArray, List.set_cons_zero, List.set_cons_succ, i64_w, i32_w]
          rfl
         refine pure_ (i := 7) (N := some 33) (v := undef) (a' := ?_) #[true, true, true, true, true, true, true, true, false, false, false, false, false, false, false] rfl rfl (any_of HT_.out (by kernel_rfl)) (fun _ _ _ h => h) (Or.inr ⟨by rfl, rfl⟩) ?_ ?_
         rotate_left
         ·simp only [Act.put, List.setIfInBounds_toArray, List.set_cons_zero, List.set_cons_succ, i64_w, i32_w]
          rfl
         refine pure_ (i := 8) (N := some 34) (v := undef) (a' := ?_) #[true, true, true, true, true, true, true, true, true, false, false, false, false, false, false] rfl rfl (any_of HT_.out (by kernel_rfl)) (fun _ _ _ h => h) (Or.inr ⟨by rfl, rfl⟩) ?_ ?_
         rotate_left
         ·simp only [Act.put, List.setIfInBounds_toArray, List.set_cons_zero, List.set_cons_succ, i64_w, i32_w]
          rfl
         refine pure_ (i := 9) (N := some 35) (v := undef) (a' := ?_) #[true, true, true, true, true, true, true, true, true, true, false, false, false, false, false] rfl rfl (any_of HT_.out (by kernel_rfl)) (fun _ _ _ h => h) (Or.inr ⟨by rfl, rfl⟩) ?_ ?_
         rotate_left
         ·simp only [Act.put, List.setIfInBounds_toArray, List.set_cons_zero, List.set_cons_succ, i64_w, i32_w]
          rfl
         refine pure_ (i := 10) (N := some 36) (v := undef) (a' := ?_) #[true, true, true, true, true, true, true, true, true, true, true, false, false, false, false] rfl rfl (any_of HT_.out (by kernel_rfl)) (fun _ _ _ h => h) (Or.inr ⟨by rfl, rfl⟩) ?_ ?_
         rotate_left
         ·simp only [Act.put, List.setIfInBounds_toArray, List.set_cons_zero, List.set_cons_succ, i64_w, i32_w]
          rfl
         refine pure_ (i := 11) (N := some 37) (v := undef) (a' := ?_) #[true, true, true, true, true, true, true, true, true, true, true, true, false, false, false] rfl rfl (any_of HT_.out (by kernel_rfl)) (fun _ _ _ h => h) (Or.inr ⟨by rfl, rfl⟩) ?_ ?_
         rotate_left
         ·simp only [Act.put, List.setIfInBounds_toArray, List.set_cons_zero, List.set_cons_succ, i64_w, i32_w]
          rfl
         refine pure_ (i := 12) (N := some 38) (v := undef) (a' := ?_) #[true, true, true, true, true, true, true, true, true, true, true, true, true, false, false] rfl rfl (any_of HT_.out (by kernel_rfl)) (fun _ _ _ h => h) (Or.inr ⟨by rfl, rfl⟩) ?_ ?_
         rotate_left
         ·simp only [Act.put, List.setIfInBounds_toArray, List.set_cons_zero, List.set_cons_succ, i64_w, i32_w]
          rfl
         refine pure_ (i := 13) (N := some 39) (v := undef) (a' := ?_) #[true, true, true, true, true, true, true, true, true, true, true, true, true, true, false] rfl rfl (any_of HT_.out (by kernel_rfl)) (fun _ _ _ h => h) (Or.inr ⟨by rfl, rfl⟩) ?_ ?_
         rotate_left
         ·simp only [Act.put, List.setIfInBounds_toArray, List.set_cons_zero, List.set_cons_succ, i64_w, i32_w]
          rfl
         refine pure_ (i := 14) (N := some 40) (v := ?_) (a' := ?_) #[true, true, true, true, true, true, true, true, true, true, true, true, true, true, true] rfl rfl (any_of HT_.out (by kernel_rfl)) (fun _ _ _ h => h) (Or.inl ⟨by rfl, ?_⟩) ?_ ?_
         rotate_left
         ·intro w'
          go_simp
          with_reducible rfl
         rotate_left
         ·simp only [Act.put, List.setIfInBounds_toArray, List.set_cons_zero, List.set_cons_succ, i64_w, i32_w]
          rfl
         refine done_ (done_of HT_.out (by kernel_rfl)) ?_
         try go_wp2
         (try simp only [← hl5_2])
         go_roundg k2
         case measure => have := HK1.out; have := HK2.out; omega
         case rel => exact ⟨(x5_2), (wrap64 (x6_1 + 1)), s1_, H', ⟨by have := HK1.out; have := HK2.out; omega⟩, ⟨by (try simp only [hl5_2]); (with_reducible repeat (first | apply Kd.R_alloc | apply Kd.R_drewN | apply Kd.R_drew)); exact HO_5.out⟩, ⟨by (try simp only [hl5_2]); (with_reducible repeat (first | refine blk_drewN ?_ _ | refine blk_drew ?_ | refine blk_alloc ?_ _)); exact BK381.out⟩, ⟨(fB1 GE381)⟩⟩
     ·rw [if_neg c6] at H
      exact absurd H (by simp)
    ·rw [if_neg c5] at H
     exact absurd H (by simp)
   ·rw [if_neg c4] at H
    have c4b0 : decide (x6_1 < (l1.length : Int)) = false := decide_eq_false c4
    clear c4
    obtain rfl := Option.some.inj H
    go_wp2
    go_ret
    exact ⟨_, by first | rfl | (simp [errW_none, errW_some] <;> rfl) | (simp [*, errW_none, errW_some] <;> rfl), (fA0 HO_5), (fB1 GE381)⟩
end Go.Proofs.Ytlfhahnceeoegaa.All
end
