/- OrderAddrs: addresses are sorted with the own ones that go with them (text 8 of 10) -/
import Derived.Test.YtlfhahnceeoegaaSa2
import Derived.Test.YtlfhahnceeoegaaSa7
import Derived.Test.YtlfhahnceeoegaaSa6
import Derived.Test.YtlfhahnceeoegaaSa3
import Derived.Test.YtlfhahnceeoegaaSa5
import Derived.Sort.LotA
import Derived.Laws.BitsAllLaws
import Derived.Test.YtlfhahnceeoegaaSa4
import Derived.Laws.BitsLemmas
namespace Go.Proofs.YtlfhahnceeoegaaW.PrintLast
end Go.Proofs.YtlfhahnceeoegaaW.PrintLast
namespace Go.Proofs.YtlfhahnceeoegaaW.PrintMore
end Go.Proofs.YtlfhahnceeoegaaW.PrintMore
namespace Go.Proofs.YtlfhahnceeoegaaW.PrintWords
end Go.Proofs.YtlfhahnceeoegaaW.PrintWords
section
namespace Go.Proofs.Ytlfhahnceeoegaa.All
open Go.RowKit Go.Proofs.YtlfhahnceeoegaaW.PrintWords Go.Proofs.YtlfhahnceeoegaaW.PrintLast Go.Proofs.YtlfhahnceeoegaaW.PrintMore
set_option linter.unusedVariables false
set_option linter.unusedSimpArgs false
mutual
def conciergeref15_Sort.l0 : Nat → List (S34) → List (S34) → Int → List (S52) → List ByteArray → Option ((List (S34)))
 | 0, _, _, _, _, _ => none
 | k + 1, x1, x5, x6, x382000, x382001 => if x6 < (x1.length : Int) then (if 0 ≤ x6 then (if x5.length < 4398046511104 then ((some (x5 ++ [(⟨(rd_T34 x1 x6).f0, (rd_T34 x1 x6).f1⟩ : S34)] : List (S34))).bind fun y383 => (conciergeref15_Sort.l1 k x1 y383 x6 (wrap64 ((y383.length : Int) - 1)) x382000 x382001)) else (none)) else (none)) else (some x5)
def conciergeref15_Sort.l1 : Nat → List (S34) → List (S34) → Int → Int → List (S52) → List ByteArray → Option ((List (S34)))
 | 0, _, _, _, _, _, _ => none
 | k + 1, x1, x5, x6, x7, x382000, x382001 => if x7 > 0 then (if 0 ≤ x7 then (if x7 < (x5.length : Int) then (if 0 ≤ (wrap64 (x7 - 1)) then (if (wrap64 (x7 - 1)) < (x5.length : Int) then ((conciergeref15_Less.f k x382000 x382001 ((rd_T34 x5 x7).f0) ((rd_T34 x5 x7).f1) ((rd_T34 x5 (wrap64 (x7 - 1))).f0) ((rd_T34 x5 (wrap64 (x7 - 1))).f1)).bind fun t388 => (if t388 = true then (conciergeref15_Sort.l1 k x1 ((x5.set ((wrap64 (x7 - 1)) : Int).toNat (⟨(rd_T34 x5 x7).f0, (rd_T34 x5 x7).f1⟩ : S34)).set (x7 : Int).toNat (⟨(rd_T34 x5 (wrap64 (x7 - 1))).f0, (rd_T34 x5 (wrap64 (x7 - 1))).f1⟩ : S34)) x6 (wrap64 (x7 - 1)) x382000 x382001) else (conciergeref15_Sort.l0 k x1 x5 (wrap64 (x6 + 1)) x382000 x382001))) else (none)) else (none)) else (none)) else (none)) else (conciergeref15_Sort.l0 k x1 x5 (wrap64 (x6 + 1)) x382000 x382001)
end
def conciergeref15_Sort.f (k : Nat) (l0_0 : List (S52)) (l0_1 : List ByteArray) (l1 : List (S34)) : Option ((List (S34))) := conciergeref15_Sort.l0 k l1 ([] : List (S34)) 0 l0_0 l0_1
def conciergeref15_Sort.T7 : Bool × List (List Nat × List Nat) := (true, [([], []), ([0], [0]), ([1], [1]), ([2], [2]), ([2], [2]), ([2], [2]), ([4, 5, 2], [2, 4, 5]), ([6, 2], [2, 6]), ([2], [2]), ([2], [2]), ([9, 2], [2, 9]), ([8, 10, 2], [2, 8, 10]), ([11, 2], [2, 11]), ([3, 7, 12, 2, 2], [2, 3, 7, 12]), ([2, 13], [2, 13])])
def conciergeref15_Sort.B7 : List Nat := [0, 1, 3, 7, 7, 7, 55, 119, 7, 7, 519, 1799, 3847, 8191, 16383]
theorem conciergeref15_Sort.tab7 : rtab .any (opsOf Try.f12 7) = conciergeref15_Sort.T7 := by kernel_rfl
theorem conciergeref15_Sort.bits7 : waitsOk conciergeref15_Sort.T7.2 conciergeref15_Sort.B7 = true := by kernel_rfl
def conciergeref15_Sort.T9 : Bool × List (List Nat × List Nat) := (true, [([], []), ([], []), ([1], [1]), ([0, 2], [0, 2]), ([3], [3]), ([], []), ([], []), ([5, 6], [5, 6]), ([7], [7]), ([], []), ([], []), ([9, 4, 0, 1, 2, 3, 4, 9, 10], [4, 9]), ([10, 8, 11, 0, 1, 2, 3, 4, 5, 6, 7, 8, 9, 10, 11], [8, 10])])
def conciergeref15_Sort.B9 : List Nat := [0, 0, 2, 7, 15, 0, 0, 96, 224, 0, 0, 1567, 4095]
theorem conciergeref15_Sort.tab9 : rtab .any (opsOf Try.f12 9) = conciergeref15_Sort.T9 := by kernel_rfl
theorem conciergeref15_Sort.bits9 : waitsOk conciergeref15_Sort.T9.2 conciergeref15_Sort.B9 = true := by kernel_rfl
set_option maxHeartbeats 8000000 in
set_option maxRecDepth 100000 in
theorem conciergeref15_Sort.calls (k : Nat) (A0_0 : Option Addr) (c0_0 : Nat) (l0_0 : List (S52)) (A0_1 : Option Addr) (c0_1 : Nat) (l0_1 : List ByteArray) (A1 : Option Addr) (c1 : Nat) (l1 : List (S34)) (r : List (S34)) (w : World) (hr0_0 : Kd.C k52 w A0_0 l0_0.length l0_0) (hc0_0 : l0_0.length ≤ c0_0) (hr0_1 : Kd.C Kd.string w A0_1 l0_1.length l0_1) (hc0_1 : l0_1.length ≤ c0_1) (hr1 : Kd.C k34 w A1 l1.length l1) (hc1 : l1.length ≤ c1) (h : conciergeref15_Sort.f k l0_0 l0_1 l1 = some r) :
  Calls Try.prog 12 #[.agg #[.slice A0_0 l0_0.length c0_0, .slice A0_1 l0_1.length c0_1], .slice A1 l1.length c1] w fun e w' => ∃ v0_ : Value, e = .returned (v0_) ∧ Kd.R k34 34 w' w.heap.size (fun _ => True) v0_ r ∧ Below w.heap.size w w' := by
 have hu28 := Try.underlying28
 have hu34 := Try.underlying34
 have HR0_0 := Aside0.mk hr0_0
 have HC0_0 := Aside0.mk hc0_0
 clear hr0_0 hc0_0
 have HR0_1 := Aside0.mk hr0_1
 have HC0_1 := Aside0.mk hc0_1
 clear hr0_1 hc0_1
 have HR1 := Aside0.mk hr1
 have HC1 := Aside0.mk hc1
 clear hr1 hc1
 have HB := Aside0.mk (Below.refl w.heap.size w)
 have H : (conciergeref15_Sort.l0 k l1 ([] : List (S34)) 0 l0_0 l0_1) = some r := h
 clear h
 have H' := Aside0.mk H
 clear H
 go_enter Try.func12, Try.ntmps12
 go_wp2_with (first | ((with_reducible refine gate_dst (N := 2) rfl ?_); refine box_event ?hg (N := 2) ?hd (cs := #[.slice A0_0 l0_0.length c0_0, .slice A0_1 l0_1.length c0_1]) (t := 28) ?hr ?_; (case hd => rfl); (case hg => rfl); (case hr => first | (go_simp; done) | (go_simp; rfl)); intro gb381 hg w3 hbox hb; have n0_ := Aside0.mk (below_step (fB0) hb); have n1_ := Aside0.mk (hbox); have n2_ := Aside0.mk ((by rw [hg]; exact (below_size (fB0)) : w.heap.size ≤ gb381)); have n3_ := Aside0.mk ((by rw [hg]; exact (below_size (fB0)) : w.heap.size ≤ gb381)); clear HB; have HB := n0_; have BK381 := n1_; have GW381 := n2_; have GE381 := n3_; clear n0_ n1_ n2_ n3_; clear hb hbox hg))
 go_loopg [5, 6] k (fun kq v5 v6 w' => ∃ (x5_1 : List (S34)) (x6_1 : Int), v6 = .int .i64 x6_1 ∧ Aside0 (conciergeref15_Sort.l0 kq l1 x5_1 x6_1 l0_0 l0_1 = some r) ∧ Aside0 (kq ≤ k) ∧ Aside0 (Kd.R k34 34 w' w.heap.size (fun _ => True) v5 x5_1) ∧ Aside0 (w'.heap[gb381]? = some (.cells #[(.slice A0_0 l0_0.length c0_0), (.slice A0_1 l0_1.length c0_1)] 28 (0, 0))) ∧ Aside0 (Below w.heap.size w w'))
 case atStart => exact ⟨(([] : List (S34))), (0), s1_, H', ⟨Nat.le_refl _⟩, ⟨by first | exact Kd.R_nil _ _ _ _ _ | exact Kd.N_nil _ _ _ _ _ | exact Kd.V_nil _ _ _ _ _ | exact Kd.Q_nil _ _ _ _ _ | exact Kd.S_nil _ _ _ _ _⟩, ⟨(fA1 BK381)⟩, ⟨(fB1 GE381)⟩⟩
 case round =>
  clear H'
  try clear c1
  try clear p2
  obtain ⟨x5_1, x6_1, rfl, HA, HK1, HO_5, BK381, HB⟩ := hrel
  cases gk with
  | zero => exact absurd HA.out (by simp [conciergeref15_Sort.l0])
  | succ k1 =>
   have H := HA.out
   clear HA
   simp only [conciergeref15_Sort.l0] at H
   by_cases c4 : x6_1 < (l1.length : Int)
   ·rw [if_pos c4] at H
    have c4b0 : decide (x6_1 < (l1.length : Int)) = true := decide_eq_true c4
    clear c4
    by_cases c5 : 0 ≤ x6_1
    ·rw [if_pos c5] at H
     have c5b0 : decide (0 ≤ x6_1) = true := decide_eq_true c5
     clear c5
     by_cases c6 : x5_1.length < 4398046511104
     ·rw [if_pos c6] at H
      have LMc6 := Aside0.mk c6
      clear c6
      obtain ⟨y383, hy383⟩ : ∃ y_ : List (S34), y_ = (x5_1 ++ [(⟨(rd_T34 l1 x6_1).f0, (rd_T34 l1 x6_1).f1⟩ : S34)]) := ⟨_, rfl⟩
      replace H : (conciergeref15_Sort.l1 k1 l1 y383 x6_1 (wrap64 ((y383.length : Int) - 1)) l0_0 l0_1) = some r := by first | (rw [hy383]; with_reducible exact H) | (have H2_ := (Option.bind_some _ _).symm.trans H; rw [hy383]; with_reducible exact H2_) | (have H2_ := (Option.bind_some _ _).symm.trans H; with_reducible exact H2_) | with_reducible exact H | (rw [hy383]; exact H) | exact H
      have Ny383 := Aside0.mk hy383
      clear hy383
      have H' := Aside0.mk H
      clear H
      have p382 : 0 ≤ (x6_1 : Int) := of_decide_eq_true (by first | (with_reducible assumption) | assumption)
      have q382 : x6_1 < (l1.length : Int) := of_decide_eq_true (by first | (with_reducible assumption) | assumption)
      obtain ⟨ad382, e382, hx382_0, hx382_1⟩ := at_T34 HR1.out x6_1 p382 q382
      cases e382
      replace hx382_0 := (HB.out.cell (World.block_lt_of_cell? w _ hx382_0)).trans hx382_0
      replace hx382_1 := (HB.out.cell (World.block_lt_of_cell? w _ hx382_1)).trans hx382_1
      replace p382 := eq_true p382
      replace q382 := eq_true q382
      go_wp2_with (first | ((with_reducible refine gate_builtin (b := .append) (xs := #[.tmp 16, .tmp 21]) rfl ?_); at_builtin; refine Kd.R_append k34 (w0 := w) w.heap.size rfl (.tmp 16) (.tmp 21) 23 34 (.agg #[(.string ⟨#[]⟩), (.string ⟨#[]⟩)]) 32 rfl Try.underlying23 info34 rfl (by decide) (by omega) u5 x5_1 (⟨(rd_T34 l1 x6_1).f0, (rd_T34 l1 x6_1).f1⟩ : S34) [.string ((rd_T34 l1 x6_1).f0), .string ((rd_T34 l1 x6_1).f1)] (fun _ => True) (fun _ => False) rfl rfl ?aP (fun _ hk => hk.elim) ?aF ?aO ?aB ?aS ?aL ?_; (case aP => exact k34_mkM _ _ _ (⟨(rd_T34 l1 x6_1).f0, (rd_T34 l1 x6_1).f1⟩ : S34)); (case aB => exact (fB1 GE381)); (case aF => exact (fun _ _ => trivial)); (case aO => exact (fA0 HO_5)); (case aS => exact (below_size (fB1 GE381))); (case aL => have := LMc6.out; omega); intro v384 w7 ho hb hg hat; rw [← Ny383.out] at ho; have n0_ := Aside0.mk (blk_grown (g := gb381) (o := .cells #[.slice A0_0 l0_0.length c0_0, .slice A0_1 l0_1.length c0_1] 28 (0, 0)) (fA1 BK381) hg (Kd.R_ne HO_5.out BK381.out (by decide))); have n1_ := Aside0.mk (hb); have n2_ := Aside0.mk (ho); clear BK381; clear HB; clear HO_5; have BK381 := n0_; have HB := n1_; have HO385 := n2_; clear n0_ n1_ n2_; clear ho hb hg hat; obtain ⟨Ao8, co8, eo8⟩ := Kd.R_slice HO385.out; subst eo8))
      go_loopg [7] k1 (fun kq v7 w' => ∃ (x5_2 : List (S34)) (x7_2 : Int), v7 = .int .i64 x7_2 ∧ Aside0 (conciergeref15_Sort.l1 kq l1 x5_2 x6_1 x7_2 l0_0 l0_1 = some r) ∧ Aside0 (kq ≤ k1) ∧ Aside0 (Kd.R k34 34 w' w.heap.size (fun _ => True) (.slice Ao8 y383.length co8) x5_2) ∧ Aside0 (w'.heap[gb381]? = some (.cells #[(.slice A0_0 l0_0.length c0_0), (.slice A0_1 l0_1.length c0_1)] 28 (0, 0))) ∧ Aside0 (Below w.heap.size w w'))
      case atStart => exact ⟨(y383), (wrap64 ((y383.length : Int) - 1)), s1_, H', ⟨Nat.le_refl _⟩, ⟨(fA0 HO385)⟩, ⟨(fA1 BK381)⟩, ⟨(fB1 GE381)⟩⟩
      case round =>
       clear H'
       try clear c1
       try clear p2
       try clear p3
       try clear q3
       try clear hx3
       try clear c4
       try clear c4b0
       try clear c5
       try clear c5b0
       try clear c6
       try clear p6
       try clear hx382_0
       try clear hx382_1
       try clear p2
       try clear p382
       try clear q382
       obtain ⟨x5_2, x7_2, rfl, HA, HK2, HO_5, BK381, HB⟩ := hrel
       have hl5_2 := (Kd.R_reads' HO_5.out).1
       rw [hl5_2] at HO_5
       (try simp only [hl5_2])
       (try simp only [hl5_2] at BK381)
       cases gk with
       | zero => exact absurd HA.out (by simp [conciergeref15_Sort.l1])
       | succ k2 =>
        have H := HA.out
        clear HA
        simp only [conciergeref15_Sort.l1] at H
        by_cases c9 : x7_2 > 0
        ·rw [if_pos c9] at H
         have c9b0 : decide (0 < x7_2) = true := decide_eq_true c9
         clear c9
         by_cases c10 : 0 ≤ x7_2
         ·rw [if_pos c10] at H
          have c10b0 : decide (0 ≤ x7_2) = true := decide_eq_true c10
          clear c10
          by_cases c11 : x7_2 < (x5_2.length : Int)
          ·rw [if_pos c11] at H
           have c11b0 : decide (x7_2 < (x5_2.length : Int)) = true := decide_eq_true c11
           clear c11
           obtain ⟨ji12, hji12⟩ : ∃ j_ : Int, (wrap64 (x7_2 - 1)) = j_ := ⟨_, rfl⟩
           replace H : (if 0 ≤ (ji12) then (if (ji12) < (x5_2.length : Int) then ((conciergeref15_Less.f k2 l0_0 l0_1 ((rd_T34 x5_2 x7_2).f0) ((rd_T34 x5_2 x7_2).f1) ((rd_T34 x5_2 (ji12)).f0) ((rd_T34 x5_2 (ji12)).f1)).bind fun t388 => (if t388 = true then (conciergeref15_Sort.l1 k2 l1 ((x5_2.set ((ji12) : Int).toNat (⟨(rd_T34 x5_2 x7_2).f0, (rd_T34 x5_2 x7_2).f1⟩ : S34)).set (x7_2 : Int).toNat (⟨(rd_T34 x5_2 (ji12)).f0, (rd_T34 x5_2 (ji12)).f1⟩ : S34)) x6_1 ji12 l0_0 l0_1) else (conciergeref15_Sort.l0 k2 l1 x5_2 (wrap64 (x6_1 + 1)) l0_0 l0_1))) else (none)) else (none)) = some r := by first | (rw [hji12] at H; exact H) | (simp only [hji12] at H ⊢; exact H)
           have hji12w : (IntKind.i64.wrap (x7_2 - 1)) = ji12 := (i64_w _).trans hji12
           by_cases c13 : 0 ≤ (ji12)
           ·rw [if_pos c13] at H
            have c13b0 : decide (0 ≤ (ji12)) = true := decide_eq_true c13
            clear c13
            by_cases c14 : (ji12) < (x5_2.length : Int)
            ·rw [if_pos c14] at H
             have c14b0 : decide ((ji12) < (x5_2.length : Int)) = true := decide_eq_true c14
             clear c14
             replace H := Option.bind_eq_some_iff.mp H
             obtain ⟨t388, A150, H⟩ := H
             have A15 := Aside0.mk A150
             clear A150
             by_cases c16 : t388 = true
             ·subst c16
              rw [if_pos rfl] at H
              obtain ⟨y393, hy393⟩ : ∃ y_ : List (S34), y_ = (x5_2.set ((ji12) : Int).toNat (⟨(rd_T34 x5_2 x7_2).f0, (rd_T34 x5_2 x7_2).f1⟩ : S34)) := ⟨_, rfl⟩
              replace H : (conciergeref15_Sort.l1 k2 l1 (y393.set (x7_2 : Int).toNat (⟨(rd_T34 x5_2 (ji12)).f0, (rd_T34 x5_2 (ji12)).f1⟩ : S34)) x6_1 ji12 l0_0 l0_1) = some r := by first | (rw [hy393]; with_reducible exact H) | (have H2_ := (Option.bind_some _ _).symm.trans H; rw [hy393]; with_reducible exact H2_) | (have H2_ := (Option.bind_some _ _).symm.trans H; with_reducible exact H2_) | with_reducible exact H | (rw [hy393]; exact H) | exact H
              have Ny393 := Aside0.mk hy393
              clear hy393
              obtain ⟨y394, hy394⟩ : ∃ y_ : List (S34), y_ = (y393.set (x7_2 : Int).toNat (⟨(rd_T34 x5_2 (ji12)).f0, (rd_T34 x5_2 (ji12)).f1⟩ : S34)) := ⟨_, rfl⟩
              replace H : (conciergeref15_Sort.l1 k2 l1 y394 x6_1 ji12 l0_0 l0_1) = some r := by first | (rw [hy394]; with_reducible exact H) | (have H2_ := (Option.bind_some _ _).symm.trans H; rw [hy394]; with_reducible exact H2_) | (have H2_ := (Option.bind_some _ _).symm.trans H; with_reducible exact H2_) | with_reducible exact H | (rw [hy394]; exact H) | exact H
              have Ny394 := Aside0.mk hy394
              clear hy394
              have H' := Aside0.mk H
              clear H
              try go_wp2
              have n0_ := Aside0.mk (Kd.R_drew HO_5.out)
              have n1_ := Aside0.mk (blk_drew BK381.out)
              have n2_ := Aside0.mk (below_drew1 HB.out)
              clear HO_5
              clear BK381
              clear HB
              have HO_5 := n0_
              have BK381 := n1_
              have HB := n2_
              clear n0_ n1_ n2_
              have p386 : 0 ≤ (x7_2 : Int) := of_decide_eq_true (by first | (with_reducible assumption) | assumption)
              have q386 : x7_2 < (x5_2.length : Int) := of_decide_eq_true (by first | (with_reducible assumption) | assumption)
              obtain ⟨ad386, e386, hx386_0, hx386_1⟩ := at_T34 (Kd.R_reads' HO_5.out).2.2 x7_2 p386 q386
              cases e386
              replace p386 := eq_true p386
              replace q386 := eq_true q386
              have p387 : 0 ≤ ((ji12) : Int) := of_decide_eq_true (by first | (with_reducible assumption) | assumption)
              have q387 : (ji12) < (x5_2.length : Int) := of_decide_eq_true (by first | (with_reducible assumption) | assumption)
              obtain ⟨ad387, e387, hx387_0, hx387_1⟩ := at_T34 (Kd.R_reads' HO_5.out).2.2 (ji12) p387 q387
              obtain rfl : ad386 = ad387 := (by injection e387)
              replace p387 := eq_true p387
              replace q387 := eq_true q387
              refine start_ (n := 15) (S := fun w' => w'.cell? ⟨gb381, 0, none⟩ = some (.slice A0_0 l0_0.length c0_0) ∧ w'.cell? ⟨gb381, 1, none⟩ = some (.slice A0_1 l0_1.length c0_1) ∧ w'.cell? (ad386.add ((x7_2).toNat * 2)) = some (.string ((rd_T34 x5_2 x7_2).f0)) ∧ w'.cell? ⟨(ad386.add ((x7_2).toNat * 2)).block, (ad386.add ((x7_2).toNat * 2)).off + 1, none⟩ = some (.string ((rd_T34 x5_2 x7_2).f1)) ∧ w'.cell? (ad386.add (((ji12)).toNat * 2)) = some (.string ((rd_T34 x5_2 (ji12)).f0)) ∧ w'.cell? ⟨(ad386.add (((ji12)).toNat * 2)).block, (ad386.add (((ji12)).toNat * 2)).off + 1, none⟩ = some (.string ((rd_T34 x5_2 (ji12)).f1))) (ds := []) #[false, false, false, false, false, false, false, false, false, false, false, false, false, false, false] (by kernel_rfl) rfl rfl ⟨(blk_cell BK381.out 0).trans rfl, (blk_cell BK381.out 1).trans rfl, hx386_0, hx386_1, hx387_0, hx387_1⟩ (fun hHeld => ?_); refine with_tabW conciergeref15_Sort.tab7 conciergeref15_Sort.bits7 (fun HT_ HW_ => ?_)
              generalize wr.drew = w19 at HO_5 BK381 HB hx386_0 hx386_1 hx387_0 hx387_1 hHeld ⊢
              refine pure_ (i := 0) (N := some 26) (v := ?_) (a' := ?_) #[true, false, false, false, false, false, false, false, false, false, false, false, false, false, false] rfl rfl (any_of HT_.out (by kernel_rfl)) (fun _ _ _ h => h) (Or.inl ⟨by rfl, ?_⟩) ?_ ?_
              rotate_left
              ·intro w'
               go_simp
               with_reducible rfl
              rotate_left
              ·simp only [Act.put, List.setIfInBounds_toArray, List.set_cons_zero, List.set_cons_succ, i64_w, i32_w]
               rfl
              refine pure_ (i := 1) (N := some 27) (v := ?_) (a' := ?_) #[true, true, false, false, false, false, false, false, false, false, false, false, false, false, false] rfl rfl (any_of HT_.out (by kernel_rfl)) (fun _ _ _ h => h) (Or.inl ⟨by rfl, ?_⟩) ?_ ?_
              rotate_left
              ·intro w'
               go_simp
               with_reducible rfl
              rotate_left
              ·simp only [Act.put, List.setIfInBounds_toArray, List.set_cons_zero, List.set_cons_succ, i64_w, i32_w]
               rfl
              refine pure_ (i := 2) (N := some 28) (v := ?_) (a' := ?_) #[true, true, true, false, false, false, false, false, false, false, false, false, false, false, false] rfl rfl (any_of HT_.out (by kernel_rfl)) (fun _ _ _ h => h) (Or.inl ⟨by rfl, ?_⟩) ?_ ?_
              rotate_left
              ·intro w'
               go_simp
               with_reducible rfl
              rotate_left
              ·simp only [Act.put, List.setIfInBounds_toArray, List.set_cons_zero, List.set_cons_succ, i64_w, i32_w]
               rfl
              refine pure_ (i := 4) (N := some 30) (v := ?_) (a' := ?_) #[true, true, true, false, true, false, false, false, false, false, false, false, false, false, false] rfl rfl (any_of HT_.out (by kernel_rfl)) (fun _ _ _ h => h) (Or.inl ⟨by rfl, ?_⟩) ?_ ?_
              rotate_left
              ·intro w'
               go_simp
               with_reducible rfl
              rotate_left
              ·simp only [Act.put, List.setIfInBounds_toArray, List.set_cons_zero, List.set_cons_succ, i64_w, i32_w]
               rfl
              refine pure_ (i := 5) (N := some 31) (v := ?_) (a' := ?_) #[true, true, true, false, true, true, false, false, false, false, false, false, false, false, false] rfl rfl (any_of HT_.out (by kernel_rfl)) (fun _ _ _ h => h) (Or.inl ⟨by rfl, ?_⟩) ?_ ?_
              rotate_left
              ·intro w'
               go_simp
               with_reducible rfl
              rotate_left
              ·simp only [Act.put, List.setIfInBounds_toArray, List.set_cons_zero, List.set_cons_succ, i64_w, i32_w]
               rfl
              refine pure_ (i := 6) (N := some 32) (v := ?_) (a' := ?_) #[true, true, true, false, true, true, true, false, false, false, false, false, false, false, false] rfl rfl (any_of HT_.out (by kernel_rfl)) (fun _ _ _ h => h) (Or.inl ⟨by rfl, ?_⟩) ?_ ?_
              rotate_left
              ·intro w'
               go_simp
               with_reducible rfl
              rotate_left
              ·simp only [Act.put, List.setIfInBounds_toArray, List.set_cons_zero, List.set_cons_succ, i64_w, i32_w]
               rfl
              refine pure_ (i := 8) (N := some 34) (v := ?_) (a' := ?_) #[true, true, true, false, true, true, true, false, true, false, false, false, false, false, false] rfl rfl (any_of HT_.out (by kernel_rfl)) (fun _ _ _ h => h) (Or.inl ⟨by rfl, ?_⟩) ?_ ?_
              rotate_left
              ·intro w'
               go_simp
               with_reducible rfl
              rotate_left
              ·simp only [Act.put, List.setIfInBounds_toArray, List.set_cons_zero, List.set_cons_succ, i64_w, i32_w]
               rfl
              refine pure_ (i := 9) (N := some 35) (v := ?_) (a' := ?_) #[true, true, true, false, true, true, true, false, true, true, false, false, false, false, false] rfl rfl (any_of HT_.out (by kernel_rfl)) (fun _ _ _ h => h) (Or.inl ⟨by rfl, ?_⟩) ?_ ?_
              rotate_left
              ·intro w'
               go_simp
               with_reducible rfl
              rotate_left
              ·simp only [Act.put, List.setIfInBounds_toArray, List.set_cons_zero, List.set_cons_succ, i64_w, i32_w]
               rfl
              refine pure_ (i := 10) (N := some 36) (v := ?_) (a' := ?_) #[true, true, true, false, true, true, true, false, true, true, true, false, false, false, false] rfl rfl (any_of HT_.out (by kernel_rfl)) (fun _ _ _ h => h) (Or.inl ⟨by rfl, ?_⟩) ?_ ?_
              rotate_left
              ·intro w'
               go_simp
               with_reducible rfl
              rotate_left
              ·simp only [Act.put, List.setIfInBounds_toArray, List.set_cons_zero, List.set_cons_succ, i64_w, i32_w]
               rfl
              refine pure_ (i := 11) (N := some 37) (v := ?_) (a' := ?_) #[true, true, true, false, true, true, true, false, true, true, true, true, false, false, false] rfl rfl (any_of HT_.out (by kernel_rfl)) (fun _ _ _ h => h) (Or.inl ⟨by rfl, ?_⟩) ?_ ?_
              rotate_left
              ·intro w'
               go_simp
               with_reducible rfl
              rotate_left
              ·simp only [Act.put, List.setIfInBounds_toArray, List.set_cons_zero, List.set_cons_succ, i64_w, i32_w]
               rfl
              refine take_ (i := 3) (N := some 29) (v := ?_) (a' := ?_) #[true, true, true, true, true, true, true, false, true, true, true, true, false, false, false] rfl rfl (take_ofW HT_.out HW_.out (by kernel_rfl)) (fun _ _ _ h => h) (Or.inl ⟨by rfl, ?_⟩) hHeld ?_ ?_
              rotate_left
              ·rintro w' ⟨s0, s1, s2, s3, s4, s5⟩
               go_simp
               with_reducible rfl
              rotate_left
              ·simp only [Act.put, List.setIfInBounds_toArray, List.set_cons_zero, List.set_cons_succ, i64_w, i32_w]
               rfl
              refine take_ (i := 7) (N := some 33) (v := ?_) (a' := ?_) #[true, true, true, true, true, true, true, true, true, true, true, true, false, false, false] rfl rfl (take_ofW HT_.out HW_.out (by kernel_rfl)) (fun _ _ _ h => h) (Or.inl ⟨by rfl, ?_⟩) hHeld ?_ ?_
              rotate_left
              ·rintro w' ⟨s0, s1, s2, s3, s4, s5⟩
               go_simp
               with_reducible rfl
              rotate_left
              ·simp only [Act.put, List.setIfInBounds_toArray, List.set_cons_zero, List.set_cons_succ, i64_w, i32_w]
               rfl
              refine take_ (i := 12) (N := some 38) (v := ?_) (a' := ?_) #[true, true, true, true, true, true, true, true, true, true, true, true, true, false, false] rfl rfl (take_ofW HT_.out HW_.out (by kernel_rfl)) (fun _ _ _ h => h) (Or.inl ⟨by rfl, ?_⟩) hHeld ?_ ?_
              rotate_left
              ·rintro w' ⟨s0, s1, s2, s3, s4, s5⟩
               go_simp
               with_reducible rfl
              rotate_left
              ·simp only [Act.put, List.setIfInBounds_toArray, List.set_cons_zero, List.set_cons_succ, i64_w, i32_w]
               rfl
              refine one_ (i := 13) (N := some 39) #[true, true, true, true, true, true, true, true, true, true, true, true, true, true, false] rfl rfl (one_of HT_.out (by kernel_rfl)) (by decide) (fun K hK => ?_)
              refine goes_ Try.func28 (by kernel_rfl) rfl #[.agg #[.slice A0_0 l0_0.length c0_0, .slice A0_1 l0_1.length c0_1], .agg #[.string ((rd_T34 x5_2 x7_2).f0), .string ((rd_T34 x5_2 x7_2).f1)], .agg #[.string ((rd_T34 x5_2 (ji12)).f0), .string ((rd_T34 x5_2 (ji12)).f1)]] (by rfl) rfl rfl (by (try simp only [List.map_toArray, List.map_cons, List.map_nil]); first | done | (simp only [hji12]; rfl) | rfl | (simp only [List.length_drop, List.length_take]; rfl)) ?_
              with_reducible refine (conciergeref15_Less.calls k2 _ _ l0_0 _ _ l0_1 ((rd_T34 x5_2 x7_2).f0) ((rd_T34 x5_2 x7_2).f1) ((rd_T34 x5_2 (ji12)).f0) ((rd_T34 x5_2 (ji12)).f1) true _ ?side1 ?side2 ?side3 ?side4 A15.out).mono ?_
              (case side1 => repeat (first | exact (Kd.C_below HR0_0.out HB.out) | (with_reducible refine Kd.C_alloc ?_ _) | (with_reducible refine Kd.C_drewN ?_ _) | (with_reducible refine Kd.C_drew ?_)))
              (case side2 => exact HC0_0.out)
              (case side3 => repeat (first | exact (Kd.C_below HR0_1.out HB.out) | (with_reducible refine Kd.C_alloc ?_ _) | (with_reducible refine Kd.C_drewN ?_ _) | (with_reducible refine Kd.C_drew ?_)))
              (case side4 => exact HC0_1.out)
              rintro e w20 ⟨rfl, hb⟩
              have HS2_ := (hb.cell (World.block_lt_of_cell? _ _ (hHeld.2.2.1))).trans (hHeld.2.2.1)
              have HS3_ := (hb.cell (World.block_lt_of_cell? _ _ (hHeld.2.2.2.1))).trans (hHeld.2.2.2.1)
              have HS4_ := (hb.cell (World.block_lt_of_cell? _ _ (hHeld.2.2.2.2.1))).trans (hHeld.2.2.2.2.1)
              have HS5_ := (hb.cell (World.block_lt_of_cell? _ _ (hHeld.2.2.2.2.2))).trans (hHeld.2.2.2.2.2)
              refine ⟨_, rfl, ?_⟩
              have n0_ := Aside0.mk (Kd.R_below (fA0 HO_5) hb)
              have n1_ := Aside0.mk (blk_below (g := gb381) (o := .cells #[.slice A0_0 l0_0.length c0_0, .slice A0_1 l0_1.length c0_1] 28 (0, 0)) (fA1 BK381) hb)
              have n2_ := Aside0.mk (below_step (fB1 GE381) hb)
              clear HO_5
              clear BK381
              clear HB
              have HO_5 := n0_
              have BK381 := n1_
              have HB := n2_
              clear n0_ n1_ n2_
              (try clear hb)
              (try clear hb2)
              (try clear hk)
              (try clear hi)
              refine hK.out _ _ ⟨(blk_cell BK381.out 0).trans rfl, (blk_cell BK381.out 1).trans rfl, HS2_, HS3_, HS4_, HS5_⟩ (fun hHeld => ?_)
              clear hK K
              refine norm_ (a' := ?_) ?_ ?_
              rotate_left
              ·show Act.put _ (some 39) _ = _
               simp only [Act.put, List.setIfInBounds_toArray, List.set_cons_zero, List.set_cons_succ, i64_w, i32_w]
               rfl
              refine pure_ (i := 14) (N := some 40) (v := ?_) (a' := ?_) #[true, true, true, true, true, true, true, true, true, true, true, true, true, true, true] rfl rfl (any_of HT_.out (by kernel_rfl)) (fun _ _ _ h => h) (Or.inl ⟨by rfl, ?_⟩) ?_ ?_
              rotate_left
              ·intro w'
               go_simp
               with_reducible rfl
              rotate_left
              ·simp only [Act.put, List.setIfInBounds_toArray, List.set_cons_zero, List.set_cons_succ, i64_w, i32_w]
               rfl
              refine done_ (done_of HT_.out (by kernel_rfl)) ?_
              try go_wp2
              have n0_ := Aside0.mk (Kd.R_drew HO_5.out)
              have n1_ := Aside0.mk (blk_drew BK381.out)
              have n2_ := Aside0.mk (below_drew1 HB.out)
              clear HO_5
              clear BK381
              clear HB
              have HO_5 := n0_
              have BK381 := n1_
              have HB := n2_
              clear n0_ n1_ n2_
              have p389 : 0 ≤ ((ji12) : Int) := of_decide_eq_true (by first | (with_reducible assumption) | assumption)
              have q389 : (ji12) < (x5_2.length : Int) := of_decide_eq_true (by first | (with_reducible assumption) | assumption)
              obtain ⟨ad389, e389, hx389_0, hx389_1⟩ := at_T34 (Kd.R_reads' HO_5.out).2.2 (ji12) p389 q389
              obtain rfl : ad386 = ad389 := (by injection e389)
              replace p389 := eq_true p389
              replace q389 := eq_true q389
              have p390 : 0 ≤ (x7_2 : Int) := of_decide_eq_true (by first | (with_reducible assumption) | assumption)
              have q390 : x7_2 < (x5_2.length : Int) := of_decide_eq_true (by first | (with_reducible assumption) | assumption)
              obtain ⟨ad390, e390, hx390_0, hx390_1⟩ := at_T34 (Kd.R_reads' HO_5.out).2.2 x7_2 p390 q390
              obtain rfl : ad386 = ad390 := (by injection e390)
              replace p390 := eq_true p390
              replace q390 := eq_true q390
              refine start_ (n := 13) (S := fun w' => w'.cell? (ad386.add (((ji12)).toNat * 2)) = some (.string ((rd_T34 x5_2 (ji12)).f0)) ∧ w'.cell? ⟨(ad386.add (((ji12)).toNat * 2)).block, (ad386.add (((ji12)).toNat * 2)).off + 1, none⟩ = some (.string ((rd_T34 x5_2 (ji12)).f1)) ∧ w'.cell? (ad386.add ((x7_2).toNat * 2)) = some (.string ((rd_T34 x5_2 x7_2).f0)) ∧ w'.cell? ⟨(ad386.add ((x7_2).toNat * 2)).block, (ad386.add ((x7_2).toNat * 2)).off + 1, none⟩ = some (.string ((rd_T34 x5_2 x7_2).f1))) (ds := []) #[false, false, false, false, false, false, false, false, false, false, false, false, false] (by kernel_rfl) rfl rfl ⟨hx389_0, hx389_1, hx390_0, hx390_1⟩ (fun hHeld => ?_); refine with_tabW conciergeref15_Sort.tab9 conciergeref15_Sort.bits9 (fun HT_ HW_ => ?_)
              generalize w20.drew = w21 at HO_5 BK381 HB hx389_0 hx389_1 hx390_0 hx390_1 hHeld ⊢
              refine pure_ (i := 0) (N := some 43) (v := ?_) (a' := ?_) #[true, false, false, false, false, false, false, false, false, false, false, false, false] rfl rfl (any_of HT_.out (by kernel_rfl)) (fun _ _ _ h => h) (Or.inl ⟨by rfl, ?_⟩) ?_ ?_
              rotate_left
              ·intro w'
               go_simp
               with_reducible rfl
              rotate_left
              ·simp only [Act.put, List.setIfInBounds_toArray, List.set_cons_zero, List.set_cons_succ, i64_w, i32_w]
               rfl
              refine pure_ (i := 1) (N := some 44) (v := ?_) (a' := ?_) #[true, true, false, false, false, false, false, false, false, false, false, false, false] rfl rfl (any_of HT_.out (by kernel_rfl)) (fun _ _ _ h => h) (Or.inl ⟨by rfl, ?_⟩) ?_ ?_
              rotate_left
              ·intro w'
               go_simp
               with_reducible rfl
              rotate_left
              ·simp only [Act.put, List.setIfInBounds_toArray, List.set_cons_zero, List.set_cons_succ, i64_w, i32_w]
               rfl
              refine pure_ (i := 2) (N := some 45) (v := ?_) (a' := ?_) #[true, true, true, false, false, false, false, false, false, false, false, false, false] rfl rfl (any_of HT_.out (by kernel_rfl)) (fun _ _ _ h => h) (Or.inl ⟨by rfl, ?_⟩) ?_ ?_
              rotate_left
              ·intro w'
               go_simp
               with_reducible rfl
              rotate_left
              ·simp only [Act.put, List.setIfInBounds_toArray, List.set_cons_zero, List.set_cons_succ, i64_w, i32_w]
               rfl
              refine pure_ (i := 3) (N := some 46) (v := ?_) (a' := ?_) #[true, true, true, true, false, false, false, false, false, false, false, false, false] rfl rfl (any_of HT_.out (by kernel_rfl)) (fun _ _ _ h => h) (Or.inl ⟨by rfl, ?_⟩) ?_ ?_
              rotate_left
              ·intro w'
               go_simp
               with_reducible rfl
              rotate_left
              ·simp only [Act.put, List.setIfInBounds_toArray, List.set_cons_zero, List.set_cons_succ, i64_w, i32_w]
               rfl
              refine pure_ (i := 5) (N := some 48) (v := ?_) (a' := ?_) #[true, true, true, true, false, true, false, false, false, false, false, false, false] rfl rfl (any_of HT_.out (by kernel_rfl)) (fun _ _ _ h => h) (Or.inl ⟨by rfl, ?_⟩) ?_ ?_
              rotate_left
              ·intro w'
               go_simp
               with_reducible rfl
              rotate_left
              ·simp only [Act.put, List.setIfInBounds_toArray, List.set_cons_zero, List.set_cons_succ, i64_w, i32_w]
               rfl
              refine pure_ (i := 6) (N := some 49) (v := ?_) (a' := ?_) #[true, true, true, true, false, true, true, false, false, false, false, false, false] rfl rfl (any_of HT_.out (by kernel_rfl)) (fun _ _ _ h => h) (Or.inl ⟨by rfl, ?_⟩) ?_ ?_
              rotate_left
              ·intro w'
               go_simp
               with_reducible rfl
              rotate_left
              ·simp only [Act.put, List.setIfInBounds_toArray, List.set_cons_zero, List.set_cons_succ, i64_w, i32_w]
               rfl
              refine pure_ (i := 7) (N := some 50) (v := ?_) (a' := ?_) #[true, true, true, true, false, true, true, true, false, false, false, false, false] rfl rfl (any_of HT_.out (by kernel_rfl)) (fun _ _ _ h => h) (Or.inl ⟨by rfl, ?_⟩) ?_ ?_
              rotate_left
              ·intro w'
               go_simp
               with_reducible rfl
              rotate_left
              ·simp only [Act.put, List.setIfInBounds_toArray, List.set_cons_zero, List.set_cons_succ, i64_w, i32_w]
               rfl
              refine take_ (i := 4) (N := some 47) (v := ?_) (a' := ?_) #[true, true, true, true, true, true, true, true, false, false, false, false, false] rfl rfl (take_ofW HT_.out HW_.out (by kernel_rfl)) (fun _ _ _ h => h) (Or.inl ⟨by rfl, ?_⟩) hHeld ?_ ?_
              rotate_left
              ·rintro w' ⟨s0, s1, s2, s3⟩
               go_simp
               with_reducible rfl
              rotate_left
              ·simp only [Act.put, List.setIfInBounds_toArray, List.set_cons_zero, List.set_cons_succ, i64_w, i32_w]
               rfl
              refine take_ (i := 8) (N := some 51) (v := ?_) (a' := ?_) #[true, true, true, true, true, true, true, true, true, false, false, false, false] rfl rfl (take_ofW HT_.out HW_.out (by kernel_rfl)) (fun _ _ _ h => h) (Or.inl ⟨by rfl, ?_⟩) hHeld ?_ ?_
              rotate_left
              ·rintro w' ⟨s0, s1, s2, s3⟩
               go_simp
               with_reducible rfl
              rotate_left
              ·simp only [Act.put, List.setIfInBounds_toArray, List.set_cons_zero, List.set_cons_succ, i64_w, i32_w]
               rfl
              refine join_ (σ := Nat × Nat) 2 #[true, true, true, true, true, true, true, true, true, true, true, false, false] (fun s_ => [(8, .pointer (some ⟨s_.1, 0, none⟩)), (9, .pointer (some ⟨s_.2, 0, none⟩))]) (fun s_ w' => (w'.cell? (ad386.add (((ji12)).toNat * 2)) = some (.string ((rd_T34 x5_2 (ji12)).f0)) ∧ w'.cell? ⟨(ad386.add (((ji12)).toNat * 2)).block, (ad386.add (((ji12)).toNat * 2)).off + 1, none⟩ = some (.string ((rd_T34 x5_2 (ji12)).f1)) ∧ w'.cell? (ad386.add ((x7_2).toNat * 2)) = some (.string ((rd_T34 x5_2 x7_2).f0)) ∧ w'.cell? ⟨(ad386.add ((x7_2).toNat * 2)).block, (ad386.add ((x7_2).toNat * 2)).off + 1, none⟩ = some (.string ((rd_T34 x5_2 x7_2).f1))) ∧ (Kd.R k34 34 w' w.heap.size (fun k_ => k_ ≠ s_.1 ∧ k_ ≠ s_.2) (.slice (some ad386) x5_2.length co8) x5_2) ∧ (w'.heap[gb381]? = some (.cells #[.slice A0_0 l0_0.length c0_0, .slice A0_1 l0_1.length c0_1] 28 (0, 0))) ∧ (w'.heap[s_.1]? = some (.cells #[.string (⟨#[]⟩ : ByteArray), .string (⟨#[]⟩ : ByteArray)] 34 (0, 0))) ∧ (w'.heap[s_.2]? = some (.cells #[.string (⟨#[]⟩ : ByteArray), .string (⟨#[]⟩ : ByteArray)] 34 (0, 0))) ∧ (w.heap.size ≤ s_.1) ∧ (w.heap.size ≤ s_.1) ∧ (gb381 ≠ s_.1) ∧ (s_.1 ≠ gb381) ∧ (s_.2 ≠ s_.1) ∧ (s_.1 ≠ s_.2) ∧ (w.heap.size ≤ s_.2) ∧ (w.heap.size ≤ s_.2) ∧ (gb381 ≠ s_.2) ∧ (s_.2 ≠ gb381) ∧ (Below w.heap.size w w')) ?_ ?_
              rotate_left
              ·intro hCont
               refine two_ (i := 9) (j := 10) (Ni := some 8) (Nj := some 9) #[true, true, true, true, true, true, true, true, true, true, false, false, false] #[true, true, true, true, true, true, true, true, true, false, true, false, false] rfl rfl rfl rfl (two_of HT_.out (by kernel_rfl)) (by decide) (by decide) (fun K hK => ?_) (fun K hK => ?_)
               ·skip
                refine box_step ?hg (N := 8) ?hd (cs := #[.string (⟨#[]⟩ : ByteArray), .string (⟨#[]⟩ : ByteArray)]) (t := 34) ?hr ?_; (case hd => rfl); (case hg => rfl); (case hr => first | (go_simp; done) | (go_simp; rfl))
                intro gb391 hg w22 hbox hb
                have HS0_ := (hb.cell (World.block_lt_of_cell? _ _ (hHeld.1))).trans (hHeld.1)
                have HS1_ := (hb.cell (World.block_lt_of_cell? _ _ (hHeld.2.1))).trans (hHeld.2.1)
                have HS2_ := (hb.cell (World.block_lt_of_cell? _ _ (hHeld.2.2.1))).trans (hHeld.2.2.1)
                have HS3_ := (hb.cell (World.block_lt_of_cell? _ _ (hHeld.2.2.2))).trans (hHeld.2.2.2)
                have n0_ := Aside0.mk (Kd.R_below (Kd.R_elderB (fA0 HO_5) gb391 (Nat.le_of_eq hg.symm)) hb)
                have n1_ := Aside0.mk (blk_below (g := gb381) (o := .cells #[.slice A0_0 l0_0.length c0_0, .slice A0_1 l0_1.length c0_1] 28 (0, 0)) (fA1 BK381) hb)
                have n2_ := Aside0.mk (below_step (fB1 GE381) hb)
                have n3_ := Aside0.mk (hbox)
                have n4_ := Aside0.mk ((by rw [hg]; exact (below_size (fB1 GE381)) : w.heap.size ≤ gb391))
                have n5_ := Aside0.mk ((by rw [hg]; exact (below_size (fB1 GE381)) : w.heap.size ≤ gb391))
                have n6_ := Aside0.mk ((by rw [hg]; exact Nat.ne_of_lt (blk_lt (g := gb381) (o := .cells #[.slice A0_0 l0_0.length c0_0, .slice A0_1 l0_1.length c0_1] 28 (0, 0)) (fA1 BK381)) : gb381 ≠ gb391))
                have n7_ := Aside0.mk ((by rw [hg]; exact Nat.ne_of_gt (blk_lt (g := gb381) (o := .cells #[.slice A0_0 l0_0.length c0_0, .slice A0_1 l0_1.length c0_1] 28 (0, 0)) (fA1 BK381)) : gb391 ≠ gb381))
                clear HO_5
                clear BK381
                clear HB
                have HO_5 := n0_
                have BK381 := n1_
                have HB := n2_
                have BK391 := n3_
                have GW391 := n4_
                have GE391 := n5_
                have NB381_391 := n6_
                have NB391_381 := n7_
                clear n0_ n1_ n2_ n3_ n4_ n5_ n6_ n7_
                clear hb hbox hg
                refine hK.out _ _ ⟨HS0_, HS1_, HS2_, HS3_⟩ (fun hHeld => ?_)
                clear hK K
                refine norm_ (a' := ?_) ?_ ?_
                rotate_left
                ·show Act.put _ (some 8) _ = _
                 simp only [Act.put, List.setIfInBounds_toArray, List.set_cons_zero, List.set_cons_succ, i64_w, i32_w]
                 rfl
                refine one_ (i := 10) (N := some 9) #[true, true, true, true, true, true, true, true, true, true, true, false, false] rfl rfl (one_of HT_.out (by kernel_rfl)) (by decide) (fun K hK => ?_)
                refine box_step ?hg (N := 9) ?hd (cs := #[.string (⟨#[]⟩ : ByteArray), .string (⟨#[]⟩ : ByteArray)]) (t := 34) ?hr ?_; (case hd => rfl); (case hg => rfl); (case hr => first | (go_simp; done) | (go_simp; rfl))
                intro gb392 hg w23 hbox hb
                have HS0_ := (hb.cell (World.block_lt_of_cell? _ _ (hHeld.1))).trans (hHeld.1)
                have HS1_ := (hb.cell (World.block_lt_of_cell? _ _ (hHeld.2.1))).trans (hHeld.2.1)
                have HS2_ := (hb.cell (World.block_lt_of_cell? _ _ (hHeld.2.2.1))).trans (hHeld.2.2.1)
                have HS3_ := (hb.cell (World.block_lt_of_cell? _ _ (hHeld.2.2.2))).trans (hHeld.2.2.2)
                have n0_ := Aside0.mk (Kd.R_below (Kd.R_elderB (fA0 HO_5) gb392 (Nat.le_of_eq hg.symm)) hb)
                have n1_ := Aside0.mk (blk_below (g := gb381) (o := .cells #[.slice A0_0 l0_0.length c0_0, .slice A0_1 l0_1.length c0_1] 28 (0, 0)) (fA1 BK381) hb)
                have n2_ := Aside0.mk (blk_below (g := gb391) (o := .cells #[.string (⟨#[]⟩ : ByteArray), .string (⟨#[]⟩ : ByteArray)] 34 (0, 0)) (fA1 BK391) hb)
                have n3_ := Aside0.mk (below_step (fB2 GE381 GE391) hb)
                have n4_ := Aside0.mk (hbox)
                have n5_ := Aside0.mk ((by rw [hg]; exact (below_size (fB2 GE381 GE391)) : w.heap.size ≤ gb392))
                have n6_ := Aside0.mk ((by rw [hg]; exact (below_size (fB2 GE381 GE391)) : w.heap.size ≤ gb392))
                have n7_ := Aside0.mk ((by rw [hg]; exact Nat.ne_of_lt (blk_lt (g := gb381) (o := .cells #[.slice A0_0 l0_0.length c0_0, .slice A0_1 l0_1.length c0_1] 28 (0, 0)) (fA1 BK381)) : gb381 ≠ gb392))
                have n8_ := Aside0.mk ((by rw [hg]; exact Nat.ne_of_gt (blk_lt (g := gb381) (o := .cells #[.slice A0_0 l0_0.length c0_0, .slice A0_1 l0_1.length c0_1] 28 (0, 0)) (fA1 BK381)) : gb392 ≠ gb381))
                have n9_ := Aside0.mk ((by rw [hg]; exact Nat.ne_of_lt (blk_lt (g := gb391) (o := .cells #[.string (⟨#[]⟩ : ByteArray), .string (⟨#[]⟩ : ByteArray)] 34 (0, 0)) (fA1 BK391)) : gb391 ≠ gb392))
                have n10_ := Aside0.mk ((by rw [hg]; exact Nat.ne_of_gt (blk_lt (g := gb391) (o := .cells #[.string (⟨#[]⟩ : ByteArray), .string (⟨#[]⟩ : ByteArray)] 34 (0, 0)) (fA1 BK391)) : gb392 ≠ gb391))
                clear HO_5
                clear BK381
                clear BK391
                clear HB
                have HO_5 := n0_
                have BK381 := n1_
                have BK391 := n2_
                have HB := n3_
                have BK392 := n4_
                have GW392 := n5_
                have GE392 := n6_
                have NB381_392 := n7_
                have NB392_381 := n8_
                have NB391_392 := n9_
                have NB392_391 := n10_
                clear n0_ n1_ n2_ n3_ n4_ n5_ n6_ n7_ n8_ n9_ n10_
                clear hb hbox hg
                refine hK.out _ _ ⟨HS0_, HS1_, HS2_, HS3_⟩ (fun hHeld => ?_)
                clear hK K
                refine norm_ (a' := ?_) ?_ ?_
                rotate_left
                ·show Act.put _ (some 9) _ = _
                 simp only [Act.put, List.setIfInBounds_toArray, List.set_cons_zero, List.set_cons_succ, i64_w, i32_w]
                 rfl
                exact norm_ (by simp only [putAll, Act.put, List.setIfInBounds_toArray, List.set_cons_zero, List.set_cons_succ]) (hCont (gb391, gb392) _ ⟨hHeld, (by (with_reducible repeat (first | apply Kd.R_alloc | apply Kd.R_drewN | apply Kd.R_drew)); exact Kd.R_mono HO_5.out (fun _ hk => ⟨hk.1.2, hk.2⟩)), (fA1 BK381), (fA1 BK391), (fA1 BK392), GW391.out, GE391.out, NB381_391.out, NB391_381.out, NB392_391.out, NB391_392.out, GW392.out, GE392.out, NB381_392.out, NB392_381.out, (fB3 GE381 GE391 GE392)⟩)
               ·skip
                refine box_step ?hg (N := 9) ?hd (cs := #[.string (⟨#[]⟩ : ByteArray), .string (⟨#[]⟩ : ByteArray)]) (t := 34) ?hr ?_; (case hd => rfl); (case hg => rfl); (case hr => first | (go_simp; done) | (go_simp; rfl))
                intro gb392 hg w22 hbox hb
                have HS0_ := (hb.cell (World.block_lt_of_cell? _ _ (hHeld.1))).trans (hHeld.1)
                have HS1_ := (hb.cell (World.block_lt_of_cell? _ _ (hHeld.2.1))).trans (hHeld.2.1)
                have HS2_ := (hb.cell (World.block_lt_of_cell? _ _ (hHeld.2.2.1))).trans (hHeld.2.2.1)
                have HS3_ := (hb.cell (World.block_lt_of_cell? _ _ (hHeld.2.2.2))).trans (hHeld.2.2.2)
                have n0_ := Aside0.mk (Kd.R_below (Kd.R_elderB (fA0 HO_5) gb392 (Nat.le_of_eq hg.symm)) hb)
                have n1_ := Aside0.mk (blk_below (g := gb381) (o := .cells #[.slice A0_0 l0_0.length c0_0, .slice A0_1 l0_1.length c0_1] 28 (0, 0)) (fA1 BK381) hb)
                have n2_ := Aside0.mk (below_step (fB1 GE381) hb)
                have n3_ := Aside0.mk (hbox)
                have n4_ := Aside0.mk ((by rw [hg]; exact (below_size (fB1 GE381)) : w.heap.size ≤ gb392))
                have n5_ := Aside0.mk ((by rw [hg]; exact (below_size (fB1 GE381)) : w.heap.size ≤ gb392))
                have n6_ := Aside0.mk ((by rw [hg]; exact Nat.ne_of_lt (blk_lt (g := gb381) (o := .cells #[.slice A0_0 l0_0.length c0_0, .slice A0_1 l0_1.length c0_1] 28 (0, 0)) (fA1 BK381)) : gb381 ≠ gb392))
                have n7_ := Aside0.mk ((by rw [hg]; exact Nat.ne_of_gt (blk_lt (g := gb381) (o := .cells #[.slice A0_0 l0_0.length c0_0, .slice A0_1 l0_1.length c0_1] 28 (0, 0)) (fA1 BK381)) : gb392 ≠ gb381))
                clear HO_5
                clear BK381
                clear HB
                have HO_5 := n0_
                have BK381 := n1_
                have HB := n2_
                have BK392 := n3_
                have GW392 := n4_
                have GE392 := n5_
                have NB381_392 := n6_
                have NB392_381 := n7_
                clear n0_ n1_ n2_ n3_ n4_ n5_ n6_ n7_
                clear hb hbox hg
                refine hK.out _ _ ⟨HS0_, HS1_, HS2_, HS3_⟩ (fun hHeld => ?_)
                clear hK K
                refine norm_ (a' := ?_) ?_ ?_
                rotate_left
                ·show Act.put _ (some 9) _ = _
                 simp only [Act.put, List.setIfInBounds_toArray, List.set_cons_zero, List.set_cons_succ, i64_w, i32_w]
                 rfl
                refine one_ (i := 9) (N := some 8) #[true, true, true, true, true, true, true, true, true, true, true, false, false] rfl rfl (one_of HT_.out (by kernel_rfl)) (by decide) (fun K hK => ?_)
                refine box_step ?hg (N := 8) ?hd (cs := #[.string (⟨#[]⟩ : ByteArray), .string (⟨#[]⟩ : ByteArray)]) (t := 34) ?hr ?_; (case hd => rfl); (case hg => rfl); (case hr => first | (go_simp; done) | (go_simp; rfl))
                intro gb391 hg w23 hbox hb
                have HS0_ := (hb.cell (World.block_lt_of_cell? _ _ (hHeld.1))).trans (hHeld.1)
                have HS1_ := (hb.cell (World.block_lt_of_cell? _ _ (hHeld.2.1))).trans (hHeld.2.1)
                have HS2_ := (hb.cell (World.block_lt_of_cell? _ _ (hHeld.2.2.1))).trans (hHeld.2.2.1)
                have HS3_ := (hb.cell (World.block_lt_of_cell? _ _ (hHeld.2.2.2))).trans (hHeld.2.2.2)
                have n0_ := Aside0.mk (Kd.R_below (Kd.R_elderB (fA0 HO_5) gb391 (Nat.le_of_eq hg.symm)) hb)
                have n1_ := Aside0.mk (blk_below (g := gb381) (o := .cells #[.slice A0_0 l0_0.length c0_0, .slice A0_1 l0_1.length c0_1] 28 (0, 0)) (fA1 BK381) hb)
                have n2_ := Aside0.mk (blk_below (g := gb392) (o := .cells #[.string (⟨#[]⟩ : ByteArray), .string (⟨#[]⟩ : ByteArray)] 34 (0, 0)) (fA1 BK392) hb)
                have n3_ := Aside0.mk (below_step (fB2 GE381 GE392) hb)
                have n4_ := Aside0.mk (hbox)
                have n5_ := Aside0.mk ((by rw [hg]; exact (below_size (fB2 GE381 GE392)) : w.heap.size ≤ gb391))
                have n6_ := Aside0.mk ((by rw [hg]; exact (below_size (fB2 GE381 GE392)) : w.heap.size ≤ gb391))
                have n7_ := Aside0.mk ((by rw [hg]; exact Nat.ne_of_lt (blk_lt (g := gb381) (o := .cells #[.slice A0_0 l0_0.length c0_0, .slice A0_1 l0_1.length c0_1] 28 (0, 0)) (fA1 BK381)) : gb381 ≠ gb391))
                have n8_ := Aside0.mk ((by rw [hg]; exact Nat.ne_of_gt (blk_lt (g := gb381) (o := .cells #[.slice A0_0 l0_0.length c0_0, .slice A0_1 l0_1.length c0_1] 28 (0, 0)) (fA1 BK381)) : gb391 ≠ gb381))
                have n9_ := Aside0.mk ((by rw [hg]; exact Nat.ne_of_lt (blk_lt (g := gb392) (o := .cells #[.string (⟨#[]⟩ : ByteArray), .string (⟨#[]⟩ : ByteArray)] 34 (0, 0)) (fA1 BK392)) : gb392 ≠ gb391))
                have n10_ := Aside0.mk ((by rw [hg]; exact Nat.ne_of_gt (blk_lt (g := gb392) (o := .cells #[.string (⟨#[]⟩ : ByteArray), .string (⟨#[]⟩ : ByteArray)] 34 (0, 0)) (fA1 BK392)) : gb391 ≠ gb392))
                clear HO_5
                clear BK381
                clear BK392
                clear HB
                have HO_5 := n0_
                have BK381 := n1_
                have BK392 := n2_
                have HB := n3_
                have BK391 := n4_
                have GW391 := n5_
                have GE391 := n6_
                have NB381_391 := n7_
                have NB391_381 := n8_
                have NB392_391 := n9_
                have NB391_392 := n10_
                clear n0_ n1_ n2_ n3_ n4_ n5_ n6_ n7_ n8_ n9_ n10_
                clear hb hbox hg
                refine hK.out _ _ ⟨HS0_, HS1_, HS2_, HS3_⟩ (fun hHeld => ?_)
                clear hK K
                refine norm_ (a' := ?_) ?_ ?_
                rotate_left
                ·show Act.put _ (some 8) _ = _
                 simp only [Act.put, List.setIfInBounds_toArray, List.set_cons_zero, List.set_cons_succ, i64_w, i32_w]
                 rfl
                exact norm_ (by simp only [putAll, Act.put, List.setIfInBounds_toArray, List.set_cons_zero, List.set_cons_succ]) (hCont (gb391, gb392) _ ⟨hHeld, (by (with_reducible repeat (first | apply Kd.R_alloc | apply Kd.R_drewN | apply Kd.R_drew)); exact Kd.R_mono HO_5.out (fun _ hk => ⟨hk.2, hk.1.2⟩)), (fA1 BK381), (fA1 BK391), (fA1 BK392), GW391.out, GE391.out, NB381_391.out, NB391_381.out, NB392_391.out, NB391_392.out, GW392.out, GE392.out, NB381_392.out, NB392_381.out, (fB3 GE381 GE392 GE391)⟩)
              rintro ⟨gb391, gb392⟩ w24 ⟨hS_, h0_, h1_, h2_, h3_, h4_, h5_, h6_, h7_, h8_, h9_, h10_, h11_, h12_, h13_, h14_⟩
              have n0_ : Aside0 (Kd.R k34 34 w24 w.heap.size (fun k_ => k_ ≠ gb391 ∧ k_ ≠ gb392) (.slice (some ad386) x5_2.length co8) x5_2) := ⟨h0_⟩
              have n1_ : Aside0 (w24.heap[gb381]? = some (.cells #[.slice A0_0 l0_0.length c0_0, .slice A0_1 l0_1.length c0_1] 28 (0, 0))) := ⟨h1_⟩
              have n2_ : Aside0 (w24.heap[gb391]? = some (.cells #[.string (⟨#[]⟩ : ByteArray), .string (⟨#[]⟩ : ByteArray)] 34 (0, 0))) := ⟨h2_⟩
              have n3_ : Aside0 (w24.heap[gb392]? = some (.cells #[.string (⟨#[]⟩ : ByteArray), .string (⟨#[]⟩ : ByteArray)] 34 (0, 0))) := ⟨h3_⟩
              have n4_ : Aside0 (w.heap.size ≤ gb391) := ⟨h4_⟩
              have n5_ : Aside0 (w.heap.size ≤ gb391) := ⟨h5_⟩
              have n6_ : Aside0 (gb381 ≠ gb391) := ⟨h6_⟩
              have n7_ : Aside0 (gb391 ≠ gb381) := ⟨h7_⟩
              have n8_ : Aside0 (gb392 ≠ gb391) := ⟨h8_⟩
              have n9_ : Aside0 (gb391 ≠ gb392) := ⟨h9_⟩
              have n10_ : Aside0 (w.heap.size ≤ gb392) := ⟨h10_⟩
              have n11_ : Aside0 (w.heap.size ≤ gb392) := ⟨h11_⟩
              have n12_ : Aside0 (gb381 ≠ gb392) := ⟨h12_⟩
              have n13_ : Aside0 (gb392 ≠ gb381) := ⟨h13_⟩
              have n14_ : Aside0 (Below w.heap.size w w24) := ⟨h14_⟩
              clear HO_5
              clear BK381
              clear HB
              clear h0_ h1_ h2_ h3_ h4_ h5_ h6_ h7_ h8_ h9_ h10_ h11_ h12_ h13_ h14_
              have HO_5 := n0_
              have BK381 := n1_
              have BK391 := n2_
              have BK392 := n3_
              have GW391 := n4_
              have GE391 := n5_
              have NB381_391 := n6_
              have NB391_381 := n7_
              have NB392_391 := n8_
              have NB391_392 := n9_
              have GW392 := n10_
              have GE392 := n11_
              have NB381_392 := n12_
              have NB392_381 := n13_
              have HB := n14_
              clear n0_ n1_ n2_ n3_ n4_ n5_ n6_ n7_ n8_ n9_ n10_ n11_ n12_ n13_ n14_
              have hHeld : w24.cell? (ad386.add (((ji12)).toNat * 2)) = some (.string ((rd_T34 x5_2 (ji12)).f0)) ∧ w24.cell? ⟨(ad386.add (((ji12)).toNat * 2)).block, (ad386.add (((ji12)).toNat * 2)).off + 1, none⟩ = some (.string ((rd_T34 x5_2 (ji12)).f1)) ∧ w24.cell? (ad386.add ((x7_2).toNat * 2)) = some (.string ((rd_T34 x5_2 x7_2).f0)) ∧ w24.cell? ⟨(ad386.add ((x7_2).toNat * 2)).block, (ad386.add ((x7_2).toNat * 2)).off + 1, none⟩ = some (.string ((rd_T34 x5_2 x7_2).f1)) := hS_
              refine norm_ (a' := ?_) ?_ ?_
              rotate_left
              ·simp only [putAll, Act.put, List.setIfInBounds_toArray, List.set_cons_zero, List.set_cons_succ]
               rfl
              refine one_ (i := 11) (N := none) #[true, true, true, true, true, true, true, true, true, true, true, true, false] rfl rfl (one_of HT_.out (by kernel_rfl)) (by decide) (fun K hK => ?_)
              have hs25 : w24.cell? ⟨gb391, 0, none⟩ = some (.string (⟨#[]⟩ : ByteArray)) := (blk_cell BK391.out 0).trans rfl
              have hfs25 := blk_frozen BK391.out 0
              have hns25_0 := NB381_391.out
              have hns25_2 := NB392_391.out
              have hms25_0 := NB391_381.out
              have hms25_2 := NB391_392.out
              have hs26 : w24.cell? ⟨gb391, 1, none⟩ = some (.string (⟨#[]⟩ : ByteArray)) := (blk_cell BK391.out 1).trans rfl
              have hfs26 := blk_frozen BK391.out 1
              have hns26_0 := NB381_391.out
              have hns26_2 := NB392_391.out
              have hms26_0 := NB391_381.out
              have hms26_2 := NB391_392.out
              refine skip_ (w1 := ?_) (by rfl) rfl ?_ ?_
              rotate_left
              ·go_simp
               rfl
              refine hK.out _ _ ⟨((cell_far (p := ⟨gb391, _, none⟩) (by first | exact Kd.own_blk (Kd.R_away HO_5.out (fun _ hk => hk.1)) | (rw [add_block]; exact Kd.own_blk (Kd.R_away HO_5.out (fun _ hk => hk.1))) | (show (Addr.add _ _).block ≠ _; rw [add_block]; exact Kd.own_blk (Kd.R_away HO_5.out (fun _ hk => hk.1))) | (dsimp only; exact Kd.own_blk (Kd.R_away HO_5.out (fun _ hk => hk.1)))) _).trans (((cell_far (p := ⟨gb391, _, none⟩) (by first | exact Kd.own_blk (Kd.R_away HO_5.out (fun _ hk => hk.1)) | (rw [add_block]; exact Kd.own_blk (Kd.R_away HO_5.out (fun _ hk => hk.1))) | (show (Addr.add _ _).block ≠ _; rw [add_block]; exact Kd.own_blk (Kd.R_away HO_5.out (fun _ hk => hk.1))) | (dsimp only; exact Kd.own_blk (Kd.R_away HO_5.out (fun _ hk => hk.1)))) _).trans (hHeld.1)))), ((cell_far (p := ⟨gb391, _, none⟩) (by first | exact Kd.own_blk (Kd.R_away HO_5.out (fun _ hk => hk.1)) | (rw [add_block]; exact Kd.own_blk (Kd.R_away HO_5.out (fun _ hk => hk.1))) | (show (Addr.add _ _).block ≠ _; rw [add_block]; exact Kd.own_blk (Kd.R_away HO_5.out (fun _ hk => hk.1))) | (dsimp only; exact Kd.own_blk (Kd.R_away HO_5.out (fun _ hk => hk.1)))) _).trans (((cell_far (p := ⟨gb391, _, none⟩) (by first | exact Kd.own_blk (Kd.R_away HO_5.out (fun _ hk => hk.1)) | (rw [add_block]; exact Kd.own_blk (Kd.R_away HO_5.out (fun _ hk => hk.1))) | (show (Addr.add _ _).block ≠ _; rw [add_block]; exact Kd.own_blk (Kd.R_away HO_5.out (fun _ hk => hk.1))) | (dsimp only; exact Kd.own_blk (Kd.R_away HO_5.out (fun _ hk => hk.1)))) _).trans (hHeld.2.1)))), ((cell_far (p := ⟨gb391, _, none⟩) (by first | exact Kd.own_blk (Kd.R_away HO_5.out (fun _ hk => hk.1)) | (rw [add_block]; exact Kd.own_blk (Kd.R_away HO_5.out (fun _ hk => hk.1))) | (show (Addr.add _ _).block ≠ _; rw [add_block]; exact Kd.own_blk (Kd.R_away HO_5.out (fun _ hk => hk.1))) | (dsimp only; exact Kd.own_blk (Kd.R_away HO_5.out (fun _ hk => hk.1)))) _).trans (((cell_far (p := ⟨gb391, _, none⟩) (by first | exact Kd.own_blk (Kd.R_away HO_5.out (fun _ hk => hk.1)) | (rw [add_block]; exact Kd.own_blk (Kd.R_away HO_5.out (fun _ hk => hk.1))) | (show (Addr.add _ _).block ≠ _; rw [add_block]; exact Kd.own_blk (Kd.R_away HO_5.out (fun _ hk => hk.1))) | (dsimp only; exact Kd.own_blk (Kd.R_away HO_5.out (fun _ hk => hk.1)))) _).trans (hHeld.2.2.1)))), ((cell_far (p := ⟨gb391, _, none⟩) (by first | exact Kd.own_blk (Kd.R_away HO_5.out (fun _ hk => hk.1)) | (rw [add_block]; exact Kd.own_blk (Kd.R_away HO_5.out (fun _ hk => hk.1))) | (show (Addr.add _ _).block ≠ _; rw [add_block]; exact Kd.own_blk (Kd.R_away HO_5.out (fun _ hk => hk.1))) | (dsimp only; exact Kd.own_blk (Kd.R_away HO_5.out (fun _ hk => hk.1)))) _).trans (((cell_far (p := ⟨gb391, _, none⟩) (by first | exact Kd.own_blk (Kd.R_away HO_5.out (fun _ hk => hk.1)) | (rw [add_block]; exact Kd.own_blk (Kd.R_away HO_5.out (fun _ hk => hk.1))) | (show (Addr.add _ _).block ≠ _; rw [add_block]; exact Kd.own_blk (Kd.R_away HO_5.out (fun _ hk => hk.1))) | (dsimp only; exact Kd.own_blk (Kd.R_away HO_5.out (fun _ hk => hk.1)))) _).trans (hHeld.2.2.2))))⟩ (fun hHeld => ?_)
              clear hK K
              refine one_ (i := 12) (N := none) #[true, true, true, true, true, true, true, true, true, true, true, true, true] rfl rfl (one_of HT_.out (by kernel_rfl)) (by decide) (fun K hK => ?_)
              have hs27 : w24.cell? ⟨gb392, 0, none⟩ = some (.string (⟨#[]⟩ : ByteArray)) := (blk_cell BK392.out 0).trans rfl
              have hfs27 := blk_frozen BK392.out 0
              have hns27_0 := NB381_392.out
              have hns27_1 := NB391_392.out
              have hms27_0 := NB392_381.out
              have hms27_1 := NB392_391.out
              have hs28 : w24.cell? ⟨gb392, 1, none⟩ = some (.string (⟨#[]⟩ : ByteArray)) := (blk_cell BK392.out 1).trans rfl
              have hfs28 := blk_frozen BK392.out 1
              have hns28_0 := NB381_392.out
              have hns28_1 := NB391_392.out
              have hms28_0 := NB392_381.out
              have hms28_1 := NB392_391.out
              refine skip_ (w1 := ?_) (by rfl) rfl ?_ ?_
              rotate_left
              ·go_simp
               rfl
              refine hK.out _ _ ⟨((cell_far (p := ⟨gb392, _, none⟩) (by first | exact Kd.own_blk (Kd.R_away HO_5.out (fun _ hk => hk.2)) | (rw [add_block]; exact Kd.own_blk (Kd.R_away HO_5.out (fun _ hk => hk.2))) | (show (Addr.add _ _).block ≠ _; rw [add_block]; exact Kd.own_blk (Kd.R_away HO_5.out (fun _ hk => hk.2))) | (dsimp only; exact Kd.own_blk (Kd.R_away HO_5.out (fun _ hk => hk.2)))) _).trans (((cell_far (p := ⟨gb392, _, none⟩) (by first | exact Kd.own_blk (Kd.R_away HO_5.out (fun _ hk => hk.2)) | (rw [add_block]; exact Kd.own_blk (Kd.R_away HO_5.out (fun _ hk => hk.2))) | (show (Addr.add _ _).block ≠ _; rw [add_block]; exact Kd.own_blk (Kd.R_away HO_5.out (fun _ hk => hk.2))) | (dsimp only; exact Kd.own_blk (Kd.R_away HO_5.out (fun _ hk => hk.2)))) _).trans (hHeld.1)))), ((cell_far (p := ⟨gb392, _, none⟩) (by first | exact Kd.own_blk (Kd.R_away HO_5.out (fun _ hk => hk.2)) | (rw [add_block]; exact Kd.own_blk (Kd.R_away HO_5.out (fun _ hk => hk.2))) | (show (Addr.add _ _).block ≠ _; rw [add_block]; exact Kd.own_blk (Kd.R_away HO_5.out (fun _ hk => hk.2))) | (dsimp only; exact Kd.own_blk (Kd.R_away HO_5.out (fun _ hk => hk.2)))) _).trans (((cell_far (p := ⟨gb392, _, none⟩) (by first | exact Kd.own_blk (Kd.R_away HO_5.out (fun _ hk => hk.2)) | (rw [add_block]; exact Kd.own_blk (Kd.R_away HO_5.out (fun _ hk => hk.2))) | (show (Addr.add _ _).block ≠ _; rw [add_block]; exact Kd.own_blk (Kd.R_away HO_5.out (fun _ hk => hk.2))) | (dsimp only; exact Kd.own_blk (Kd.R_away HO_5.out (fun _ hk => hk.2)))) _).trans (hHeld.2.1)))), ((cell_far (p := ⟨gb392, _, none⟩) (by first | exact Kd.own_blk (Kd.R_away HO_5.out (fun _ hk => hk.2)) | (rw [add_block]; exact Kd.own_blk (Kd.R_away HO_5.out (fun _ hk => hk.2))) | (show (Addr.add _ _).block ≠ _; rw [add_block]; exact Kd.own_blk (Kd.R_away HO_5.out (fun _ hk => hk.2))) | (dsimp only; exact Kd.own_blk (Kd.R_away HO_5.out (fun _ hk => hk.2)))) _).trans (((cell_far (p := ⟨gb392, _, none⟩) (by first | exact Kd.own_blk (Kd.R_away HO_5.out (fun _ hk => hk.2)) | (rw [add_block]; exact Kd.own_blk (Kd.R_away HO_5.out (fun _ hk => hk.2))) | (show (Addr.add _ _).block ≠ _; rw [add_block]; exact Kd.own_blk (Kd.R_away HO_5.out (fun _ hk => hk.2))) | (dsimp only; exact Kd.own_blk (Kd.R_away HO_5.out (fun _ hk => hk.2)))) _).trans (hHeld.2.2.1)))), ((cell_far (p := ⟨gb392, _, none⟩) (by first | exact Kd.own_blk (Kd.R_away HO_5.out (fun _ hk => hk.2)) | (rw [add_block]; exact Kd.own_blk (Kd.R_away HO_5.out (fun _ hk => hk.2))) | (show (Addr.add _ _).block ≠ _; rw [add_block]; exact Kd.own_blk (Kd.R_away HO_5.out (fun _ hk => hk.2))) | (dsimp only; exact Kd.own_blk (Kd.R_away HO_5.out (fun _ hk => hk.2)))) _).trans (((cell_far (p := ⟨gb392, _, none⟩) (by first | exact Kd.own_blk (Kd.R_away HO_5.out (fun _ hk => hk.2)) | (rw [add_block]; exact Kd.own_blk (Kd.R_away HO_5.out (fun _ hk => hk.2))) | (show (Addr.add _ _).block ≠ _; rw [add_block]; exact Kd.own_blk (Kd.R_away HO_5.out (fun _ hk => hk.2))) | (dsimp only; exact Kd.own_blk (Kd.R_away HO_5.out (fun _ hk => hk.2)))) _).trans (hHeld.2.2.2))))⟩ (fun hHeld => ?_)
              clear hK K
              refine done_ (done_of HT_.out (by kernel_rfl)) ?_
              have n0_ : Aside0 (Kd.R k34 34 ((((w24.setCell ⟨gb391, 0, none⟩ (.string ((rd_T34 x5_2 (ji12)).f0))).setCell ⟨gb391, 1, none⟩ (.string ((rd_T34 x5_2 (ji12)).f1))).setCell ⟨gb392, 0, none⟩ (.string ((rd_T34 x5_2 x7_2).f0))).setCell ⟨gb392, 1, none⟩ (.string ((rd_T34 x5_2 x7_2).f1))) w.heap.size (fun k_ => k_ ≠ gb391 ∧ k_ ≠ gb392) (.slice (some ad386) x5_2.length co8) x5_2) := ⟨by (with_reducible repeat (first | apply Kd.R_alloc | apply Kd.R_drewN | apply Kd.R_drew)); exact Kd.R_mono (Kd.R_far (p := ⟨gb392, 1, none⟩) (Kd.R_far (p := ⟨gb392, 0, none⟩) (Kd.R_far (p := ⟨gb391, 1, none⟩) (Kd.R_far (p := ⟨gb391, 0, none⟩) (Kd.R_mono (Kd.R_mono HO_5.out (fun k_ hk => (⟨hk, hk.1⟩ : _ ∧ k_ ≠ gb391))) (fun k_ hk => (⟨hk, hk.1.2⟩ : _ ∧ k_ ≠ gb392))) (fun _ hk => hk.1.2) (.string ((rd_T34 x5_2 (ji12)).f0))) (fun _ hk => hk.1.2) (.string ((rd_T34 x5_2 (ji12)).f1))) (fun _ hk => hk.2) (.string ((rd_T34 x5_2 x7_2).f0))) (fun _ hk => hk.2) (.string ((rd_T34 x5_2 x7_2).f1))) (fun _ hk => ⟨hk.1.1.1, hk.1.1.2⟩)⟩
              have n1_ : Aside0 (((((w24.setCell ⟨gb391, 0, none⟩ (.string ((rd_T34 x5_2 (ji12)).f0))).setCell ⟨gb391, 1, none⟩ (.string ((rd_T34 x5_2 (ji12)).f1))).setCell ⟨gb392, 0, none⟩ (.string ((rd_T34 x5_2 x7_2).f0))).setCell ⟨gb392, 1, none⟩ (.string ((rd_T34 x5_2 x7_2).f1))).heap[gb381]? = some (.cells #[.slice A0_0 l0_0.length c0_0, .slice A0_1 l0_1.length c0_1] 28 (0, 0))) := ⟨by (with_reducible repeat (first | refine blk_drewN ?_ _ | refine blk_drew ?_ | refine blk_alloc ?_ _)); refine blk_far ?_ NB381_392.out _; (with_reducible repeat (first | refine blk_drewN ?_ _ | refine blk_drew ?_ | refine blk_alloc ?_ _)); refine blk_far ?_ NB381_392.out _; (with_reducible repeat (first | refine blk_drewN ?_ _ | refine blk_drew ?_ | refine blk_alloc ?_ _)); refine blk_far ?_ NB381_391.out _; (with_reducible repeat (first | refine blk_drewN ?_ _ | refine blk_drew ?_ | refine blk_alloc ?_ _)); refine blk_far ?_ NB381_391.out _; (with_reducible repeat (first | refine blk_drewN ?_ _ | refine blk_drew ?_ | refine blk_alloc ?_ _)); exact BK381.out⟩
              have n2_ : Aside0 (((((w24.setCell ⟨gb391, 0, none⟩ (.string ((rd_T34 x5_2 (ji12)).f0))).setCell ⟨gb391, 1, none⟩ (.string ((rd_T34 x5_2 (ji12)).f1))).setCell ⟨gb392, 0, none⟩ (.string ((rd_T34 x5_2 x7_2).f0))).setCell ⟨gb392, 1, none⟩ (.string ((rd_T34 x5_2 x7_2).f1))).heap[gb391]? = some (.cells #[.string ((rd_T34 x5_2 (ji12)).f0), .string ((rd_T34 x5_2 (ji12)).f1)] 34 (0, 0))) := ⟨by (with_reducible repeat (first | refine blk_drewN ?_ _ | refine blk_drew ?_ | refine blk_alloc ?_ _)); refine blk_far ?_ NB391_392.out _; (with_reducible repeat (first | refine blk_drewN ?_ _ | refine blk_drew ?_ | refine blk_alloc ?_ _)); refine blk_far ?_ NB391_392.out _; (with_reducible repeat (first | refine blk_drewN ?_ _ | refine blk_drew ?_ | refine blk_alloc ?_ _)); refine blk_put (cs := #[.string ((rd_T34 x5_2 (ji12)).f0), .string (⟨#[]⟩ : ByteArray)]) ?_ 1 _ rfl; (with_reducible repeat (first | refine blk_drewN ?_ _ | refine blk_drew ?_ | refine blk_alloc ?_ _)); refine blk_put (cs := #[.string (⟨#[]⟩ : ByteArray), .string (⟨#[]⟩ : ByteArray)]) ?_ 0 _ rfl; (with_reducible repeat (first | refine blk_drewN ?_ _ | refine blk_drew ?_ | refine blk_alloc ?_ _)); exact BK391.out⟩
              have n3_ : Aside0 (((((w24.setCell ⟨gb391, 0, none⟩ (.string ((rd_T34 x5_2 (ji12)).f0))).setCell ⟨gb391, 1, none⟩ (.string ((rd_T34 x5_2 (ji12)).f1))).setCell ⟨gb392, 0, none⟩ (.string ((rd_T34 x5_2 x7_2).f0))).setCell ⟨gb392, 1, none⟩ (.string ((rd_T34 x5_2 x7_2).f1))).heap[gb392]? = some (.cells #[.string ((rd_T34 x5_2 x7_2).f0), .string ((rd_T34 x5_2 x7_2).f1)] 34 (0, 0))) := ⟨by (with_reducible repeat (first | refine blk_drewN ?_ _ | refine blk_drew ?_ | refine blk_alloc ?_ _)); refine blk_put (cs := #[.string ((rd_T34 x5_2 x7_2).f0), .string (⟨#[]⟩ : ByteArray)]) ?_ 1 _ rfl; (with_reducible repeat (first | refine blk_drewN ?_ _ | refine blk_drew ?_ | refine blk_alloc ?_ _)); refine blk_put (cs := #[.string (⟨#[]⟩ : ByteArray), .string (⟨#[]⟩ : ByteArray)]) ?_ 0 _ rfl; (with_reducible repeat (first | refine blk_drewN ?_ _ | refine blk_drew ?_ | refine blk_alloc ?_ _)); refine blk_far ?_ NB392_391.out _; (with_reducible repeat (first | refine blk_drewN ?_ _ | refine blk_drew ?_ | refine blk_alloc ?_ _)); refine blk_far ?_ NB392_391.out _; (with_reducible repeat (first | refine blk_drewN ?_ _ | refine blk_drew ?_ | refine blk_alloc ?_ _)); exact BK392.out⟩
              have n4_ : Aside0 (Below w.heap.size w ((((w24.setCell ⟨gb391, 0, none⟩ (.string ((rd_T34 x5_2 (ji12)).f0))).setCell ⟨gb391, 1, none⟩ (.string ((rd_T34 x5_2 (ji12)).f1))).setCell ⟨gb392, 0, none⟩ (.string ((rd_T34 x5_2 x7_2).f0))).setCell ⟨gb392, 1, none⟩ (.string ((rd_T34 x5_2 x7_2).f1)))) := ⟨(fB3 GE381 GE391 GE392)⟩
              (try clear HO_5)
              (try clear BK381)
              (try clear BK391)
              (try clear BK392)
              (try clear HB)
              generalize ((((w24.setCell ⟨gb391, 0, none⟩ (.string ((rd_T34 x5_2 (ji12)).f0))).setCell ⟨gb391, 1, none⟩ (.string ((rd_T34 x5_2 (ji12)).f1))).setCell ⟨gb392, 0, none⟩ (.string ((rd_T34 x5_2 x7_2).f0))).setCell ⟨gb392, 1, none⟩ (.string ((rd_T34 x5_2 x7_2).f1))) = w29 at n0_ n1_ n2_ n3_ n4_ ⊢
              have HO_5 := n0_
              have BK381 := n1_
              have BK391 := n2_
              have BK392 := n3_
              have HB := n4_
              clear n0_ n1_ n2_ n3_ n4_
              have hnb30 := NB392_381.out
              have hnc30 := NB381_392.out
              have hnb31 := NB392_391.out
              have hnc31 := NB391_392.out
              have hcz32_0 : w29.cell? ⟨gb392, 0, none⟩ = some (.string ((rd_T34 x5_2 x7_2).f0)) := (blk_cell BK392.out 0).trans rfl
              have hcz32_1 : w29.cell? ⟨gb392, 1, none⟩ = some (.string ((rd_T34 x5_2 x7_2).f1)) := (blk_cell BK392.out 1).trans rfl
              have hfz32_0 := blk_frozen BK392.out 0
              have hfz32_1 := blk_frozen BK392.out 1
              have p17 : 0 ≤ ((ji12) : Int) := of_decide_eq_true (by first | (with_reducible assumption) | assumption)
              have q17 : ((ji12) : Int) < ((x5_2.length : Int) : Int) := of_decide_eq_true (by first | (with_reducible assumption) | assumption)
              obtain ⟨go17, co17, eo17, gb17, gl17, cl17, HG17⟩ := Kd.R_form HO_5.out (by omega)
              (first | cases eo17 | (injection eo17 with ea_ en_ ec_; (first | subst ea_ | (injection ea_ with ea_; subst ea_)); subst ec_; clear en_))
              have GB17 := Aside0.mk gb17
              have GG17 := Aside0.mk HG17
              clear gb17 gl17 HG17
              (first | simp only [add_plain] at hx386_0 | skip)
              (first | simp only [add_plain] at hx386_1 | skip)
              (first | simp only [add_plain] at hx387_0 | skip)
              (first | simp only [add_plain] at hx387_1 | skip)
              (first | simp only [add_plain] at hx389_0 | skip)
              (first | simp only [add_plain] at hx389_1 | skip)
              (first | simp only [add_plain] at hx390_0 | skip)
              (first | simp only [add_plain] at hx390_1 | skip)
              obtain ⟨ce17, hcl17, hM17, hcc17, hfr17⟩ := Kd.R_elem HO_5.out z34 ((ji12) : Int) p17 q17
              obtain rfl := k34_openM hM17
              have hx17_0 : w29.cell? ⟨go17, ((ji12) : Int).toNat * 2, none⟩ = some (.string ((rd_T34 x5_2 (ji12)).f0)) := hcc17 0 _ rfl
              have hx17_1 : w29.cell? ⟨go17, ((ji12) : Int).toNat * 2 + 1, none⟩ = some (.string ((rd_T34 x5_2 (ji12)).f1)) := hcc17 1 _ rfl
              have hf17_0 : w29.frozen? ⟨go17, ((ji12) : Int).toNat * 2, none⟩ = false := hfr17 0
              have hf17_1 : w29.frozen? ⟨go17, ((ji12) : Int).toNat * 2 + 1, none⟩ = false := hfr17 1
              clear hcl17 hcc17 hfr17 hM17
              replace p17 := eq_true p17
              replace q17 := eq_true q17
              have HX33 := Aside0.mk (show Kd.R k34 34 w29 w.heap.size (fun k_ => k_ ≠ gb391 ∧ k_ ≠ gb392) (.slice (some ⟨go17, 0, none⟩) x5_2.length co8) x5_2 from (fA0 HO_5))
              obtain ⟨ce33, hcl33, hM33, hcc33, hfr33⟩ := Kd.R_elem HX33.out z34 ((ji12) : Int) (of_decide_eq_true (by first | (with_reducible assumption) | assumption)) (by have h_ : ((ji12) : Int) < ((x5_2.length : Int) : Int) := of_decide_eq_true (by first | (with_reducible assumption) | assumption); first | exact h_ | (have e_ := (Kd.R_reads' HO_5.out).1; omega) | simpa using h_)
              obtain rfl := k34_openM hM33
              have HP33 := Kd.R_seg HX33.out ((ji12) : Int) (of_decide_eq_true (by first | (with_reducible assumption) | assumption)) (by have h_ : ((ji12) : Int) < ((x5_2.length : Int) : Int) := of_decide_eq_true (by first | (with_reducible assumption) | assumption); first | exact h_ | (have e_ := (Kd.R_reads' HO_5.out).1; omega) | simpa using h_) (seg := [.string ((rd_T34 x5_2 x7_2).f0), .string ((rd_T34 x5_2 x7_2).f1)]) (j := 0) hcl33 hcc33 (show 2 ≤ 2 from by decide) (x' := (⟨(rd_T34 x5_2 x7_2).f0, (rd_T34 x5_2 x7_2).f1⟩ : S34)) (k34_mkM _ _ _ (⟨(rd_T34 x5_2 x7_2).f0, (rd_T34 x5_2 x7_2).f1⟩ : S34) ) (fun _ hk => hk)
              have hx33_0 := hcc33 0 _ rfl
              (try simp only [show (k34).sz = 2 from rfl, Nat.mul_one, Nat.add_zero] at hx33_0)
              have hf33_0 := hfr33 0
              (try simp only [show (k34).sz = 2 from rfl, Nat.mul_one, Nat.add_zero] at hf33_0)
              have hx33_1 := hcc33 1 _ rfl
              (try simp only [show (k34).sz = 2 from rfl, Nat.mul_one, Nat.add_zero] at hx33_1)
              have hf33_1 := hfr33 1
              (try simp only [show (k34).sz = 2 from rfl, Nat.mul_one, Nat.add_zero] at hf33_1)
              clear hcl33 hcc33 hfr33 hM33
              try go_wp2_with (first | ((with_reducible refine gate_store (t := 34) (p := 56) rfl ?_); refine store_event (t := 34) (p := 56) (v := ?vo_w34) (w1 := ((w29.setCell ⟨go17, ((ji12) : Int).toNat * 2, none⟩ (.string ((rd_T34 x5_2 x7_2).f0))).setCell ⟨go17, ((ji12) : Int).toNat * 2 + 1, none⟩ (.string ((rd_T34 x5_2 x7_2).f1)))) ?hg ?ho ?hn ?hr ?_; (case ho => rfl); (case hg => rfl); (case hn => rfl); (case hr => first | (go_simp; done) | (go_simp; rfl)); intro w34 hw; have hg : w29.grownBy w34 (some go17) := (by rw [hw]; exact HP33.2); have hp_ : Kd.R k34 34 w34 w.heap.size (fun k_ => k_ ≠ gb391 ∧ k_ ≠ gb392) (.slice (some ⟨go17, 0, none⟩) x5_2.length co8) y393 := (by rw [hw, Ny393.out]; exact HP33.1); clear HP33; have n0_ := Aside0.mk (hp_); have n1_ := Aside0.mk (blk_grown (g := gb381) (o := .cells #[.slice A0_0 l0_0.length c0_0, .slice A0_1 l0_1.length c0_1] 28 (0, 0)) (fA1 BK381) hg (Kd.R_ne HO_5.out BK381.out (by decide))); have n2_ := Aside0.mk (blk_grown (g := gb391) (o := .cells #[.string ((rd_T34 x5_2 (ji12)).f0), .string ((rd_T34 x5_2 (ji12)).f1)] 34 (0, 0)) (fA1 BK391) hg (Kd.R_away HO_5.out (fun _ hk => hk.1))); have n3_ := Aside0.mk (blk_grown (g := gb392) (o := .cells #[.string ((rd_T34 x5_2 x7_2).f0), .string ((rd_T34 x5_2 x7_2).f1)] 34 (0, 0)) (fA1 BK392) hg (Kd.R_away HO_5.out (fun _ hk => hk.2))); have n4_ := Aside0.mk ((by rw [hw]; exact below_set (below_set (HB.out) GB17.out) GB17.out : Below w.heap.size w w34)); clear HO_5; clear BK381; clear BK391; clear BK392; clear HB; have HO_5 := n0_; have BK381 := n1_; have BK391 := n2_; have BK392 := n3_; have HB := n4_; clear n0_ n1_ n2_ n3_ n4_; clear hg hw hp_; have hnb35 := NB391_381.out; have hnc35 := NB381_391.out; have hcz36_0 : w34.cell? ⟨gb391, 0, none⟩ = some (.string ((rd_T34 x5_2 (ji12)).f0)) := (blk_cell BK391.out 0).trans rfl; have hcz36_1 : w34.cell? ⟨gb391, 1, none⟩ = some (.string ((rd_T34 x5_2 (ji12)).f1)) := (blk_cell BK391.out 1).trans rfl; have hfz36_0 := blk_frozen BK391.out 0; have hfz36_1 := blk_frozen BK391.out 1; have p18 : 0 ≤ (x7_2 : Int) := of_decide_eq_true (by first | (with_reducible assumption) | assumption); have q18 : (x7_2 : Int) < ((x5_2.length : Int) : Int) := of_decide_eq_true (by first | (with_reducible assumption) | assumption); obtain ⟨ce18, hcl18, hM18, hcc18, hfr18⟩ := Kd.R_elem HO_5.out z34 (x7_2 : Int) p18 q18; obtain rfl := k34_openM hM18; have hx18_0 : w34.cell? ⟨go17, (x7_2 : Int).toNat * 2, none⟩ = some (.string ((rd_T34 y393 x7_2).f0)) := hcc18 0 _ rfl; have hx18_1 : w34.cell? ⟨go17, (x7_2 : Int).toNat * 2 + 1, none⟩ = some (.string ((rd_T34 y393 x7_2).f1)) := hcc18 1 _ rfl; have hf18_0 : w34.frozen? ⟨go17, (x7_2 : Int).toNat * 2, none⟩ = false := hfr18 0; have hf18_1 : w34.frozen? ⟨go17, (x7_2 : Int).toNat * 2 + 1, none⟩ = false := hfr18 1; clear hcl18 hcc18 hfr18 hM18; replace p18 := eq_true p18; replace q18 := eq_true q18; have HX37 := Aside0.mk (show Kd.R k34 34 w34 w.heap.size (fun k_ => k_ ≠ gb391 ∧ k_ ≠ gb392) (.slice (some ⟨go17, 0, none⟩) x5_2.length co8) y393 from (fA0 HO_5)); obtain ⟨ce37, hcl37, hM37, hcc37, hfr37⟩ := Kd.R_elem HX37.out z34 (x7_2 : Int) (of_decide_eq_true (by first | (with_reducible assumption) | assumption)) (by have h_ : (x7_2 : Int) < ((x5_2.length : Int) : Int) := of_decide_eq_true (by first | (with_reducible assumption) | assumption); first | exact h_ | (have e_ := (Kd.R_reads' HO_5.out).1; omega) | simpa using h_); obtain rfl := k34_openM hM37; have HP37 := Kd.R_seg HX37.out (x7_2 : Int) (of_decide_eq_true (by first | (with_reducible assumption) | assumption)) (by have h_ : (x7_2 : Int) < ((x5_2.length : Int) : Int) := of_decide_eq_true (by first | (with_reducible assumption) | assumption); first | exact h_ | (have e_ := (Kd.R_reads' HO_5.out).1; omega) | simpa using h_) (seg := [.string ((rd_T34 x5_2 (ji12)).f0), .string ((rd_T34 x5_2 (ji12)).f1)]) (j := 0) hcl37 hcc37 (show 2 ≤ 2 from by decide) (x' := (⟨(rd_T34 x5_2 (ji12)).f0, (rd_T34 x5_2 (ji12)).f1⟩ : S34)) (k34_mkM _ _ _ (⟨(rd_T34 x5_2 (ji12)).f0, (rd_T34 x5_2 (ji12)).f1⟩ : S34) ) (fun _ hk => hk); have hx37_0 := hcc37 0 _ rfl; (try simp only [show (k34).sz = 2 from rfl, Nat.mul_one, Nat.add_zero] at hx37_0); have hf37_0 := hfr37 0; (try simp only [show (k34).sz = 2 from rfl, Nat.mul_one, Nat.add_zero] at hf37_0); have hx37_1 := hcc37 1 _ rfl; (try simp only [show (k34).sz = 2 from rfl, Nat.mul_one, Nat.add_zero] at hx37_1); have hf37_1 := hfr37 1; (try simp only [show (k34).sz = 2 from rfl, Nat.mul_one, Nat.add_zero] at hf37_1); clear hcl37 hcc37 hfr37 hM37) | ((with_reducible refine gate_store (t := 34) (p := 60) rfl ?_); refine store_event (t := 34) (p := 60) (v := ?vo_w38) (w1 := ((w34.setCell ⟨go17, (x7_2 : Int).toNat * 2, none⟩ (.string ((rd_T34 x5_2 (ji12)).f0))).setCell ⟨go17, (x7_2 : Int).toNat * 2 + 1, none⟩ (.string ((rd_T34 x5_2 (ji12)).f1)))) ?hg ?ho ?hn ?hr ?_; (case ho => rfl); (case hg => rfl); (case hn => rfl); (case hr => first | (go_simp; done) | (go_simp; rfl)); intro w38 hw; have hg : w34.grownBy w38 (some go17) := (by rw [hw]; exact HP37.2); have hp_ : Kd.R k34 34 w38 w.heap.size (fun k_ => k_ ≠ gb391 ∧ k_ ≠ gb392) (.slice (some ⟨go17, 0, none⟩) x5_2.length co8) y394 := (by rw [hw, Ny394.out]; exact HP37.1); clear HP37; have n0_ := Aside0.mk (hp_); have n1_ := Aside0.mk (blk_grown (g := gb381) (o := .cells #[.slice A0_0 l0_0.length c0_0, .slice A0_1 l0_1.length c0_1] 28 (0, 0)) (fA1 BK381) hg (Kd.R_ne HO_5.out BK381.out (by decide))); have n2_ := Aside0.mk (blk_grown (g := gb391) (o := .cells #[.string ((rd_T34 x5_2 (ji12)).f0), .string ((rd_T34 x5_2 (ji12)).f1)] 34 (0, 0)) (fA1 BK391) hg (Kd.R_away HO_5.out (fun _ hk => hk.1))); have n3_ := Aside0.mk (blk_grown (g := gb392) (o := .cells #[.string ((rd_T34 x5_2 x7_2).f0), .string ((rd_T34 x5_2 x7_2).f1)] 34 (0, 0)) (fA1 BK392) hg (Kd.R_away HO_5.out (fun _ hk => hk.2))); have n4_ := Aside0.mk ((by rw [hw]; exact below_set (below_set (HB.out) GB17.out) GB17.out : Below w.heap.size w w38)); clear HO_5; clear BK381; clear BK391; clear BK392; clear HB; have HO_5 := n0_; have BK381 := n1_; have BK391 := n2_; have BK392 := n3_; have HB := n4_; clear n0_ n1_ n2_ n3_ n4_; clear hg hw hp_))
              (try simp only [← hl5_2])
              go_roundg k2
              case measure => have := HK1.out; have := HK2.out; omega
              case rel => exact ⟨(y394), (ji12), (by first | rfl | (simp; done) | (simp only [← hji12] <;> (first | rfl | simp)) | (simp [*]; done)), H', ⟨by have := HK1.out; have := HK2.out; omega⟩, ⟨by (try simp only [hl5_2]); (with_reducible repeat (first | apply Kd.R_alloc | apply Kd.R_drewN | apply Kd.R_drew)); exact Kd.R_mono HO_5.out (fun _ hk => trivial)⟩, ⟨by (try simp only [hl5_2]); (with_reducible repeat (first | refine blk_drewN ?_ _ | refine blk_drew ?_ | refine blk_alloc ?_ _)); exact BK381.out⟩, ⟨(fB3 GE381 GE391 GE392)⟩⟩
             ·replace c16 := Bool.eq_false_iff.mpr c16
              subst c16
              rw [if_neg (show ¬ (false = true) by decide)] at H
              have H' := Aside0.mk H
              clear H
              try go_wp2
              have n0_ := Aside0.mk (Kd.R_drew HO_5.out)
              have n1_ := Aside0.mk (blk_drew BK381.out)
              have n2_ := Aside0.mk (below_drew1 HB.out)
              clear HO_5
              clear BK381
              clear HB
              have HO_5 := n0_
              have BK381 := n1_
              have HB := n2_
              clear n0_ n1_ n2_
              have p386 : 0 ≤ (x7_2 : Int) := of_decide_eq_true (by first | (with_reducible assumption) | assumption)
              have q386 : x7_2 < (x5_2.length : Int) := of_decide_eq_true (by first | (with_reducible assumption) | assumption)
              obtain ⟨ad386, e386, hx386_0, hx386_1⟩ := at_T34 (Kd.R_reads' HO_5.out).2.2 x7_2 p386 q386
              cases e386
              replace p386 := eq_true p386
              replace q386 := eq_true q386
              have p387 : 0 ≤ ((ji12) : Int) := of_decide_eq_true (by first | (with_reducible assumption) | assumption)
              have q387 : (ji12) < (x5_2.length : Int) := of_decide_eq_true (by first | (with_reducible assumption) | assumption)
              obtain ⟨ad387, e387, hx387_0, hx387_1⟩ := at_T34 (Kd.R_reads' HO_5.out).2.2 (ji12) p387 q387
              obtain rfl : ad386 = ad387 := (by injection e387)
              replace p387 := eq_true p387
              replace q387 := eq_true q387
              refine start_ (n := 15) (S := fun w' => w'.cell? ⟨gb381, 0, none⟩ = some (.slice A0_0 l0_0.length c0_0) ∧ w'.cell? ⟨gb381, 1, none⟩ = some (.slice A0_1 l0_1.length c0_1) ∧ w'.cell? (ad386.add ((x7_2).toNat * 2)) = some (.string ((rd_T34 x5_2 x7_2).f0)) ∧ w'.cell? ⟨(ad386.add ((x7_2).toNat * 2)).block, (ad386.add ((x7_2).toNat * 2)).off + 1, none⟩ = some (.string ((rd_T34 x5_2 x7_2).f1)) ∧ w'.cell? (ad386.add (((ji12)).toNat * 2)) = some (.string ((rd_T34 x5_2 (ji12)).f0)) ∧ w'.cell? ⟨(ad386.add (((ji12)).toNat * 2)).block, (ad386.add (((ji12)).toNat * 2)).off + 1, none⟩ = some (.string ((rd_T34 x5_2 (ji12)).f1))) (ds := []) #[false, false, false, false, false, false, false, false, false, false, false, false, false, false, false] (by kernel_rfl) rfl rfl ⟨(blk_cell BK381.out 0).trans rfl, (blk_cell BK381.out 1).trans rfl, hx386_0, hx386_1, hx387_0, hx387_1⟩ (fun hHeld => ?_); refine with_tabW conciergeref15_Sort.tab7 conciergeref15_Sort.bits7 (fun HT_ HW_ => ?_)
              generalize wr.drew = w39 at HO_5 BK381 HB hx386_0 hx386_1 hx387_0 hx387_1 hHeld ⊢
              refine pure_ (i := 0) (N := some 26) (v := ?_) (a' := ?_) #[true, false, false, false, false, false, false, false, false, false, false, false, false, false, false] rfl rfl (any_of HT_.out (by kernel_rfl)) (fun _ _ _ h => h) (Or.inl ⟨by rfl, ?_⟩) ?_ ?_
              rotate_left
              ·intro w'
               go_simp
               with_reducible rfl
              rotate_left
              ·simp only [Act.put, List.setIfInBounds_toArray, List.set_cons_zero, List.set_cons_succ, i64_w, i32_w]
               rfl
              refine pure_ (i := 1) (N := some 27) (v := ?_) (a' := ?_) #[true, true, false, false, false, false, false, false, false, false, false, false, false, false, false] rfl rfl (any_of HT_.out (by kernel_rfl)) (fun _ _ _ h => h) (Or.inl ⟨by rfl, ?_⟩) ?_ ?_
              rotate_left
              ·intro w'
               go_simp
               with_reducible rfl
              rotate_left
              ·simp only [Act.put, List.setIfInBounds_toArray, List.set_cons_zero, List.set_cons_succ, i64_w, i32_w]
               rfl
              refine pure_ (i := 2) (N := some 28) (v := ?_) (a' := ?_) #[true, true, true, false, false, false, false, false, false, false, false, false, false, false, false] rfl rfl (any_of HT_.out (by kernel_rfl)) (fun _ _ _ h => h) (Or.inl ⟨by rfl, ?_⟩) ?_ ?_
              rotate_left
              ·intro w'
               go_simp
               with_reducible rfl
              rotate_left
              ·simp only [Act.put, List.setIfInBounds_toArray, List.set_cons_zero, List.set_cons_succ, i64_w, i32_w]
               rfl
              refine pure_ (i := 4) (N := some 30) (v := ?_) (a' := ?_) #[true, true, true, false, true, false, false, false, false, false, false, false, false, false, false] rfl rfl (any_of HT_.out (by kernel_rfl)) (fun _ _ _ h => h) (Or.inl ⟨by rfl, ?_⟩) ?_ ?_
              rotate_left
              ·intro w'
               go_simp
               with_reducible rfl
              rotate_left
              ·simp only [Act.put, List.setIfInBounds_toArray, List.set_cons_zero, List.set_cons_succ, i64_w, i32_w]
               rfl
              refine pure_ (i := 5) (N := some 31) (v := ?_) (a' := ?_) #[true, true, true, false, true, true, false, false, false, false, false, false, false, false, false] rfl rfl (any_of HT_.out (by kernel_rfl)) (fun _ _ _ h => h) (Or.inl ⟨by rfl, ?_⟩) ?_ ?_
              rotate_left
              ·intro w'
               go_simp
               with_reducible rfl
              rotate_left
              ·simp only [Act.put, List.setIfInBounds_toArray, List.set_cons_zero, List.set_cons_succ, i64_w, i32_w]
               rfl
              refine pure_ (i := 6) (N := some 32) (v := ?_) (a' := ?_) #[true, true, true, false, true, true, true, false, false, false, false, false, false, false, false] rfl rfl (any_of HT_.out (by kernel_rfl)) (fun _ _ _ h => h) (Or.inl ⟨by rfl, ?_⟩) ?_ ?_
              rotate_left
              ·intro w'
               go_simp
               with_reducible rfl
              rotate_left
              ·simp only [Act.put, List.setIfInBounds_toArray, List.set_cons_zero, List.set_cons_succ, i64_w, i32_w]
               rfl
              refine pure_ (i := 8) (N := some 34) (v := ?_) (a' := ?_) #[true, true, true, false, true, true, true, false, true, false, false, false, false, false, false] rfl rfl (any_of HT_.out (by kernel_rfl)) (fun _ _ _ h => h) (Or.inl ⟨by rfl, ?_⟩) ?_ ?_
              rotate_left
              ·intro w'
               go_simp
               with_reducible rfl
              rotate_left
              ·simp only [Act.put, List.setIfInBounds_toArray, List.set_cons_zero, List.set_cons_succ, i64_w, i32_w]
               rfl
              refine pure_ (i := 9) (N := some 35) (v := ?_) (a' := ?_) #[true, true, true, false, true, true, true, false, true, true, false, false, false, false, false] rfl rfl (any_of HT_.out (by kernel_rfl)) (fun _ _ _ h => h) (Or.inl ⟨by rfl, ?_⟩) ?_ ?_
              rotate_left
              ·intro w'
               go_simp
               with_reducible rfl
              rotate_left
              ·simp only [Act.put, List.setIfInBounds_toArray, List.set_cons_zero, List.set_cons_succ, i64_w, i32_w]
               rfl
              refine pure_ (i := 10) (N := some 36) (v := ?_) (a' := ?_) #[true, true, true, false, true, true, true, false, true, true, true, false, false, false, false] rfl rfl (any_of HT_.out (by kernel_rfl)) (fun _ _ _ h => h) (Or.inl ⟨by rfl, ?_⟩) ?_ ?_
              rotate_left
              ·intro w'
               go_simp
               with_reducible rfl
              rotate_left
              ·simp only [Act.put, List.setIfInBounds_toArray, List.set_cons_zero, List.set_cons_succ, i64_w, i32_w]
               rfl
              refine pure_ (i := 11) (N := some 37) (v := ?_) (a' := ?_) #[true, true, true, false, true, true, true, false, true, true, true, true, false, false, false] rfl rfl (any_of HT_.out (by kernel_rfl)) (fun _ _ _ h => h) (Or.inl ⟨by rfl, ?_⟩) ?_ ?_
              rotate_left
              ·intro w'
               go_simp
               with_reducible rfl
              rotate_left
              ·simp only [Act.put, List.setIfInBounds_toArray, List.set_cons_zero, List.set_cons_succ, i64_w, i32_w]
               rfl
              refine take_ (i := 3) (N := some 29) (v := ?_) (a' := ?_) #[true, true, true, true, true, true, true, false, true, true, true, true, false, false, false] rfl rfl (take_ofW HT_.out HW_.out (by kernel_rfl)) (fun _ _ _ h => h) (Or.inl ⟨by rfl, ?_⟩) hHeld ?_ ?_
              rotate_left
              ·rintro w' ⟨s0, s1, s2, s3, s4, s5⟩
               go_simp
               with_reducible rfl
              rotate_left
              ·simp only [Act.put, List.setIfInBounds_toArray, List.set_cons_zero, List.set_cons_succ, i64_w, i32_w]
               rfl
              refine take_ (i := 7) (N := some 33) (v := ?_) (a' := ?_) #[true, true, true, true, true, true, true, true, true, true, true, true, false, false, false] rfl rfl (take_ofW HT_.out HW_.out (by kernel_rfl)) (fun _ _ _ h => h) (Or.inl ⟨by rfl, ?_⟩) hHeld ?_ ?_
              rotate_left
              ·rintro w' ⟨s0, s1, s2, s3, s4, s5⟩
               go_simp
               with_reducible rfl
              rotate_left
              ·simp only [Act.put, List.setIfInBounds_toArray, List.set_cons_zero, List.set_cons_succ, i64_w, i32_w]
               rfl
              refine take_ (i := 12) (N := some 38) (v := ?_) (a' := ?_) #[true, true, true, true, true, true, true, true, true, true, true, true, true, false, false] rfl rfl (take_ofW HT_.out HW_.out (by kernel_rfl)) (fun _ _ _ h => h) (Or.inl ⟨by rfl, ?_⟩) hHeld ?_ ?_
              rotate_left
              ·rintro w' ⟨s0, s1, s2, s3, s4, s5⟩
               go_simp
               with_reducible rfl
              rotate_left
              ·simp only [Act.put, List.setIfInBounds_toArray, List.set_cons_zero, List.set_cons_succ, i64_w, i32_w]
               rfl
              refine one_ (i := 13) (N := some 39) #[true, true, true, true, true, true, true, true, true, true, true, true, true, true, false] rfl rfl (one_of HT_.out (by kernel_rfl)) (by decide) (fun K hK => ?_)
              refine goes_ Try.func28 (by kernel_rfl) rfl #[.agg #[.slice A0_0 l0_0.length c0_0, .slice A0_1 l0_1.length c0_1], .agg #[.string ((rd_T34 x5_2 x7_2).f0), .string ((rd_T34 x5_2 x7_2).f1)], .agg #[.string ((rd_T34 x5_2 (ji12)).f0), .string ((rd_T34 x5_2 (ji12)).f1)]] (by rfl) rfl rfl (by (try simp only [List.map_toArray, List.map_cons, List.map_nil]); first | done | (simp only [hji12]; rfl) | rfl | (simp only [List.length_drop, List.length_take]; rfl)) ?_
              with_reducible refine (conciergeref15_Less.calls k2 _ _ l0_0 _ _ l0_1 ((rd_T34 x5_2 x7_2).f0) ((rd_T34 x5_2 x7_2).f1) ((rd_T34 x5_2 (ji12)).f0) ((rd_T34 x5_2 (ji12)).f1) false _ ?side1 ?side2 ?side3 ?side4 A15.out).mono ?_
              (case side1 => repeat (first | exact (Kd.C_below HR0_0.out HB.out) | (with_reducible refine Kd.C_alloc ?_ _) | (with_reducible refine Kd.C_drewN ?_ _) | (with_reducible refine Kd.C_drew ?_)))
              (case side2 => exact HC0_0.out)
              (case side3 => repeat (first | exact (Kd.C_below HR0_1.out HB.out) | (with_reducible refine Kd.C_alloc ?_ _) | (with_reducible refine Kd.C_drewN ?_ _) | (with_reducible refine Kd.C_drew ?_)))
              (case side4 => exact HC0_1.out)
              rintro e w40 ⟨rfl, hb⟩
              have HS2_ := (hb.cell (World.block_lt_of_cell? _ _ (hHeld.2.2.1))).trans (hHeld.2.2.1)
              have HS3_ := (hb.cell (World.block_lt_of_cell? _ _ (hHeld.2.2.2.1))).trans (hHeld.2.2.2.1)
              have HS4_ := (hb.cell (World.block_lt_of_cell? _ _ (hHeld.2.2.2.2.1))).trans (hHeld.2.2.2.2.1)
              have HS5_ := (hb.cell (World.block_lt_of_cell? _ _ (hHeld.2.2.2.2.2))).trans (hHeld.2.2.2.2.2)
              refine ⟨_, rfl, ?_⟩
              have n0_ := Aside0.mk (Kd.R_below (fA0 HO_5) hb)
              have n1_ := Aside0.mk (blk_below (g := gb381) (o := .cells #[.slice A0_0 l0_0.length c0_0, .slice A0_1 l0_1.length c0_1] 28 (0, 0)) (fA1 BK381) hb)
              have n2_ := Aside0.mk (below_step (fB1 GE381) hb)
              clear HO_5
              clear BK381
              clear HB
              have HO_5 := n0_
              have BK381 := n1_
              have HB := n2_
              clear n0_ n1_ n2_
              (try clear hb)
              (try clear hb2)
              (try clear hk)
              (try clear hi)
              refine hK.out _ _ ⟨(blk_cell BK381.out 0).trans rfl, (blk_cell BK381.out 1).trans rfl, HS2_, HS3_, HS4_, HS5_⟩ (fun hHeld => ?_)
              clear hK K
              refine norm_ (a' := ?_) ?_ ?_
              rotate_left
              ·show Act.put _ (some 39) _ = _
               simp only [Act.put, List.setIfInBounds_toArray, List.set_cons_zero, List.set_cons_succ, i64_w, i32_w]
               rfl
              refine pure_ (i := 14) (N := some 40) (v := ?_) (a' := ?_) #[true, true, true, true, true, true, true, true, true, true, true, true, true, true, true] rfl rfl (any_of HT_.out (by kernel_rfl)) (fun _ _ _ h => h) (Or.inl ⟨by rfl, ?_⟩) ?_ ?_
              rotate_left
              ·intro w'
               go_simp
               with_reducible rfl
              rotate_left
              ·simp only [Act.put, List.setIfInBounds_toArray, List.set_cons_zero, List.set_cons_succ, i64_w, i32_w]
               rfl
              refine done_ (done_of HT_.out (by kernel_rfl)) ?_
              try go_wp2
              (try simp only [← hl5_2])
              go_roundg k2
              case measure => have := HK1.out; have := HK2.out; omega
              case rel => exact ⟨(x5_2), (wrap64 (x6_1 + 1)), s1_, H', ⟨by have := HK1.out; have := HK2.out; omega⟩, ⟨by (try simp only [hl5_2]); (with_reducible repeat (first | apply Kd.R_alloc | apply Kd.R_drewN | apply Kd.R_drew)); exact HO_5.out⟩, ⟨by (try simp only [hl5_2]); (with_reducible repeat (first | refine blk_drewN ?_ _ | refine blk_drew ?_ | refine blk_alloc ?_ _)); exact BK381.out⟩, ⟨(fB1 GE381)⟩⟩
            ·rw [if_neg c14] at H
             exact absurd H (by simp)
           ·rw [if_neg c13] at H
            exact absurd H (by simp)
          ·rw [if_neg c11] at H
           exact absurd H (by simp)
         ·rw [if_neg c10] at H
          exact absurd H (by simp)
        ·rw [if_neg c9] at H
         have c9b0 : decide (0 < x7_2) = false := decide_eq_false c9
         clear c9
         have H' := Aside0.mk H
         clear H
         try go_wp2
         have n0_ := Aside0.mk (Kd.R_drew HO_5.out)
         have n1_ := Aside0.mk (blk_drew BK381.out)
         have n2_ := Aside0.mk (below_drew1 HB.out)
         clear HO_5
         clear BK381
         clear HB
         have HO_5 := n0_
         have BK381 := n1_
         have HB := n2_
         clear n0_ n1_ n2_
         refine start_ (n := 15) (S := fun w' => True) (ds := []) #[false, false, false, false, false, false, false, false, false, false, false, false, false, false, false] (by kernel_rfl) rfl rfl trivial (fun hHeld => ?_); refine with_tabW conciergeref15_Sort.tab7 conciergeref15_Sort.bits7 (fun HT_ HW_ => ?_)
         generalize wr.drew = w41 at HO_5 BK381 HB hHeld ⊢
         refine pure_ (i := 0) (N := some 26) (v := ?_) (a' := ?_) #[true, false, false, false, false, false, false, false, false, false, false, false, false, false, false] rfl rfl (any_of HT_.out (by kernel_rfl)) (fun _ _ _ h => h) (Or.inl ⟨by rfl, ?_⟩) ?_ ?_
         rotate_left
         ·intro w'
          go_simp
          with_reducible rfl
         rotate_left
         ·simp only [Act.put, List.setIfInBounds_toArray, List.set_cons_zero, List.set_cons_succ, i64_w, i32_w]
          rfl
         refine pure_ (i := 1) (N := some 27) (v := ?_) (a' := ?_) #[true, true, false, false, false, false, false, false, false, false, false, false, false, false, false] rfl rfl (any_of HT_.out (by kernel_rfl)) (fun _ _ _ h => h) (Or.inl ⟨by rfl, ?_⟩) ?_ ?_
         rotate_left
         ·intro w'
          go_simp
          with_reducible rfl
         rotate_left
         ·simp only [Act.put, List.setIfInBounds_toArray, List.set_cons_zero, List.set_cons_succ, i64_w, i32_w]
          rfl
         refine pure_ (i := 2) (N := some 28) (v := ?_) (a' := ?_) #[true, true, true, false, false, false, false, false, false, false, false, false, false, false, false] rfl rfl (any_of HT_.out (by kernel_rfl)) (fun _ _ _ h => h) (Or.inl ⟨by rfl, ?_⟩) ?_ ?_
         rotate_left
         ·intro w'
          go_simp
          with_reducible rfl
         rotate_left
         ·simp only [Act.put, List.setIfInBounds_toArray, List.set_cons_zero, List.set_cons_succ, i64_w, i32_w]
          rfl
         refine pure_ (i := 3) (N := some 29) (v := undef) (a' := ?_) #[true, true, true, true, false, false, false, false, false, false, false, false, false, false, false] rfl rfl (any_of HT_.out (by kernel_rfl)) (fun _ _ _ h => h) (Or.inr ⟨by rfl, rfl⟩) ?_ ?_
         rotate_left
         ·simp only [Act.put, List.setIfInBounds_toArray, List.set_cons_zero, List.set_cons_succ, i64_w, i32_w]
          rfl
         refine pure_ (i := 4) (N := some 30) (v := undef) (a' := ?_) #[true, true, true, true, true, false, false, false, false, false, false, false, false, false, false] rfl rfl (any_of HT_.out (by kernel_rfl)) (fun _ _ _ h => h) (Or.inr ⟨by rfl, rfl⟩) ?_ ?_
         rotate_left
         ·simp only [Act.put, List.setIfInBounds_toArray, List.set_cons_zero, List.set_cons_succ, i64_w, i32_w]
          rfl
         refine pure_ (i := 5) (N := some 31) (v := undef) (a' := ?_) #[true, true, true, true, true, true, false, false, false, false, false, false, false, false, false] rfl rfl (any_of HT_.out (by kernel_rfl)) (fun _ _ _ h => h) (Or.inr ⟨by rfl, rfl⟩) ?_ ?_
         rotate_left
         ·simp only [Act.put, List.setIfInBounds_toArray, List.set_cons_zero, List.set_cons_succ, i64_w, i32_w]
          rfl
         refine pure_ (i := 6) (N := some 32) (v := undef) (a' := ?_) #[true, true, true, true, true, true, true, false, false, false, false, false, false, false, false] rfl rfl (any_of HT_.out (by kernel_rfl)) (fun _ _ _ h => h) (Or.inr ⟨by rfl, rfl⟩) ?_ ?_
         rotate_left
         ·simp only [Act.put, List.setIfInBounds_toArray, List.set_cons_zero, List.set_cons_succ, i64_w, i32_w]
          rfl
         refine pure_ (i := 7) (N := some 33) (v := undef) (a' := ?_) #[true, true, true, true, true, true, true, true, false, false, false, false, false, false, false] rfl rfl (any_of HT_.out (by kernel_rfl)) (fun _ _ _ h => h) (Or.inr ⟨by rfl, rfl⟩) ?_ ?_
         rotate_left
         ·simp only [Act.put, List.setIfInBounds_toArray, List.set_cons_zero, List.set_cons_succ, i64_w, i32_w]
          rfl
         refine pure_ (i := 8) (N := some 34) (v := undef) (a' := ?_) #[true, true, true, true, true, true, true, true, true, false, false, false, false, false, false] rfl rfl (any_of HT_.out (by kernel_rfl)) (fun _ _ _ h => h) (Or.inr ⟨by rfl, rfl⟩) ?_ ?_
         rotate_left
         ·simp only [Act.put, List.setIfInBounds_toArray, List.set_cons_zero, List.set_cons_succ, i64_w, i32_w]
          rfl
         refine pure_ (i := 9) (N := some 35) (v := undef) (a' := ?_) #[true, true, true, true, true, true, true, true, true, true, false, false, false, false, false] rfl rfl (any_of HT_.out (by kernel_rfl)) (fun _ _ _ h => h) (Or.inr ⟨by rfl, rfl⟩) ?_ ?_
         rotate_left
         ·simp only [Act.put, List.setIfInBounds_toArray, List.set_cons_zero, List.set_cons_succ, i64_w, i32_w]
          rfl
         refine pure_ (i := 10) (N := some 36) (v := undef) (a' := ?_) #[true, true, true, true, true, true, true, true, true, true, true, false, false, false, false] rfl rfl (any_of HT_.out (by kernel_rfl)) (fun _ _ _ h => h) (Or.inr ⟨by rfl, rfl⟩) ?_ ?_
         rotate_left
         ·simp only [Act.put, List.setIfInBounds_toArray, List.set_cons_zero, List.set_cons_succ, i64_w, i32_w]
          rfl
         refine pure_ (i := 11) (N := some 37) (v := undef) (a' := ?_) #[true, true, true, true, true, true, true, true, true, true, true, true, false, false, false] rfl rfl (any_of HT_.out (by kernel_rfl)) (fun _ _ _ h => h) (Or.inr ⟨by rfl, rfl⟩) ?_ ?_
         rotate_left
         ·simp only [Act.put, List.setIfInBounds_toArray, List.set_cons_zero, List.set_cons_succ, i64_w, i32_w]
          rfl
         refine pure_ (i := 12) (N := some 38) (v := undef) (a' := ?_) #[true, true, true, true, true, true, true, true, true, true, true, true, true, false, false] rfl rfl (any_of HT_.out (by kernel_rfl)) (fun _ _ _ h => h) (Or.inr ⟨by rfl, rfl⟩) ?_ ?_
         rotate_left
         ·simp only [Act.put, List.setIfInBounds_toArray, List.set_cons_zero, List.set_cons_succ, i64_w, i32_w]
          rfl
         refine pure_ (i := 13) (N := some 39) (v := undef) (a' := ?_) #[true, true, true, true, true, true, true, true, true, true, true, true, true, true, false] rfl rfl (any_of HT_.out (by kernel_rfl)) (fun _ _ _ h => h) (Or.inr ⟨by rfl, rfl⟩) ?_ ?_
         rotate_left
         ·simp only [Act.put, List.setIfInBounds_toArray, List.set_cons_zero, List.set_cons_succ, i64_w, i32_w]
          rfl
         refine pure_ (i := 14) (N := some 40) (v := ?_) (a' := ?_) #[true, true, true, true, true, true, true, true, true, true, true, true, true, true, true] rfl rfl (any_of HT_.out (by kernel_rfl)) (fun _ _ _ h => h) (Or.inl ⟨by rfl, ?_⟩) ?_ ?_
         rotate_left
         ·intro w'
          go_simp
          with_reducible rfl
         rotate_left
         ·simp only [Act.put, List.setIfInBounds_toArray, List.set_cons_zero, List.set_cons_succ, i64_w, i32_w]
          rfl
         refine done_ (done_of HT_.out (by kernel_rfl)) ?_
         try go_wp2
         (try simp only [← hl5_2])
         go_roundg k2
         case measure => have := HK1.out; have := HK2.out; omega
         case rel => exact ⟨(x5_2), (wrap64 (x6_1 + 1)), s1_, H', ⟨by have := HK1.out; have := HK2.out; omega⟩, ⟨by (try simp only [hl5_2]); (with_reducible repeat (first | apply Kd.R_alloc | apply Kd.R_drewN | apply Kd.R_drew)); exact HO_5.out⟩, ⟨by (try simp only [hl5_2]); (with_reducible repeat (first | refine blk_drewN ?_ _ | refine blk_drew ?_ | refine blk_alloc ?_ _)); exact BK381.out⟩, ⟨(fB1 GE381)⟩⟩
     ·rw [if_neg c6] at H
      exact absurd H (by simp)
    ·rw [if_neg c5] at H
     exact absurd H (by simp)
   ·rw [if_neg c4] at H
    have c4b0 : decide (x6_1 < (l1.length : Int)) = false := decide_eq_false c4
    clear c4
    obtain rfl := Option.some.inj H
    go_wp2
    go_ret
    exact ⟨_, by first | rfl | (simp [errW_none, errW_some] <;> rfl) | (simp [*, errW_none, errW_some] <;> rfl), (fA0 HO_5), (fB1 GE381)⟩
end Go.Proofs.Ytlfhahnceeoegaa.All
end
section
namespace Go.Proofs.Ytlfhahnceeoegaa.All
open Go.RowKit Go.Proofs.YtlfhahnceeoegaaW.PrintWords Go.Proofs.YtlfhahnceeoegaaW.PrintLast Go.Proofs.YtlfhahnceeoegaaW.PrintMore
set_option linter.unusedVariables false
set_option linter.unusedSimpArgs false
def conciergeref5_EqTexts.l0 : Nat → List ByteArray → List ByteArray → Int → Option (Bool)
 | 0, _, _, _ => none
 | k + 1, x0, x1, x5 => if x5 < (x0.length : Int) then (if 0 ≤ x5 then (if x5 < (x1.length : Int) then (if (rdOf ByteArray.empty x0 x5).toList = (rdOf ByteArray.empty x1 x5).toList then (conciergeref5_EqTexts.l0 k x0 x1 (wrap64 (x5 + 1))) else (some false)) else (none)) else (none)) else (some true)
def conciergeref5_EqTexts.f (k : Nat) (l0 : List ByteArray) (l1 : List ByteArray) : Option (Bool) := if (l0.length : Int) = (l1.length : Int) then (conciergeref5_EqTexts.l0 k l0 l1 0) else (some false)
set_option maxHeartbeats 8000000 in
set_option maxRecDepth 100000 in
theorem conciergeref5_EqTexts.calls (k : Nat) (A0 : Option Addr) (c0 : Nat) (l0 : List ByteArray) (A1 : Option Addr) (c1 : Nat) (l1 : List ByteArray) (r : Bool) (w : World) (hr0 : Kd.C Kd.string w A0 l0.length l0) (hc0 : l0.length ≤ c0) (hr1 : Kd.C Kd.string w A1 l1.length l1) (hc1 : l1.length ≤ c1) (h : conciergeref5_EqTexts.f k l0 l1 = some r) :
  Calls Try.prog 16 #[.slice A0 l0.length c0, .slice A1 l1.length c1] w fun e w' => e = .returned (.bool r) ∧ Drawn0 w w' := by
 have HR0 := Aside0.mk hr0
 have HC0 := Aside0.mk hc0
 clear hr0 hc0
 have HR1 := Aside0.mk hr1
 have HC1 := Aside0.mk hc1
 clear hr1 hc1
 have H : (if (l0.length : Int) = (l1.length : Int) then (conciergeref5_EqTexts.l0 k l0 l1 0) else (some false)) = some r := h
 clear h
 by_cases c3 : (l0.length : Int) = (l1.length : Int)
 ·rw [if_pos c3] at H
  have c3b0 : ((l0.length : Int) == (l1.length : Int)) = true := beq_iff_eq.mpr c3
  have c3b1 : ((l0.length : Int) != (l1.length : Int)) = false := bne_eq_false_iff_eq.mpr c3
  have c3b2 : (l0.length == l1.length) = true := by first | simpa using c3 | (simp at c3 ⊢; omega)
  clear c3
  have H' := Aside0.mk H
  clear H
  go_enter Try.func16, Try.ntmps16
  go_wp2
  repeat (go_quiet (fail); try go_wp2)
  go_loopg [5] k (fun kq v5 w' => ∃ (x5_1 : Int), v5 = .int .i64 x5_1 ∧ Aside0 (conciergeref5_EqTexts.l0 kq l0 l1 x5_1 = some r) ∧ Aside0 (kq ≤ k) ∧ Drawn0 w w')
  case atStart => exact ⟨(0), s1_, H', ⟨Nat.le_refl _⟩, by repeat (first | exact Drawn0.refl _ | apply Drawn0.step)⟩
  case round =>
   clear H'
   try clear c1
   try clear p2
   try clear c3
   try clear c3b0
   try clear c3b1
   try clear c3b2
   obtain ⟨x5_1, rfl, HA, HK1, ⟨m1, rfl⟩⟩ := hrel
   cases gk with
   | zero => exact absurd HA.out (by simp [conciergeref5_EqTexts.l0])
   | succ k1 =>
    have H := HA.out
    clear HA
    simp only [conciergeref5_EqTexts.l0] at H
    by_cases c4 : x5_1 < (l0.length : Int)
    ·rw [if_pos c4] at H
     have c4b0 : decide (x5_1 < (l0.length : Int)) = true := decide_eq_true c4
     clear c4
     by_cases c5 : 0 ≤ x5_1
     ·rw [if_pos c5] at H
      have c5b0 : decide (0 ≤ x5_1) = true := decide_eq_true c5
      clear c5
      by_cases c6 : x5_1 < (l1.length : Int)
      ·rw [if_pos c6] at H
       have c6b0 : decide (x5_1 < (l1.length : Int)) = true := decide_eq_true c6
       clear c6
       by_cases c7 : (rdOf ByteArray.empty l0 x5_1).toList = (rdOf ByteArray.empty l1 x5_1).toList
       ·rw [if_pos c7] at H
        have c7b0 : ((rdOf ByteArray.empty l0 x5_1).toList == (rdOf ByteArray.empty l1 x5_1).toList) = true := beq_iff_eq.mpr c7
        have c7b1 : ((rdOf ByteArray.empty l0 x5_1).toList != (rdOf ByteArray.empty l1 x5_1).toList) = false := bne_eq_false_iff_eq.mpr c7
        clear c7
        have H' := Aside0.mk H
        clear H
        have p433 : 0 ≤ (x5_1 : Int) := of_decide_eq_true (by first | (with_reducible assumption) | assumption)
        have q433 : x5_1 < (l0.length : Int) := of_decide_eq_true (by first | (with_reducible assumption) | assumption)
        obtain ⟨ad433, e433, hx433_0⟩ := Kd.at_string HR0.out x5_1 p433 q433
        cases e433
        replace p433 := eq_true p433
        replace q433 := eq_true q433
        have p434 : 0 ≤ (x5_1 : Int) := of_decide_eq_true (by first | (with_reducible assumption) | assumption)
        have q434 : x5_1 < (l1.length : Int) := of_decide_eq_true (by first | (with_reducible assumption) | assumption)
        obtain ⟨ad434, e434, hx434_0⟩ := Kd.at_string HR1.out x5_1 p434 q434
        cases e434
        replace p434 := eq_true p434
        replace q434 := eq_true q434
        go_wp2
        repeat (go_quiet (fail); try go_wp2)
        go_roundg k1
        case measure => have := HK1.out; omega
        case rel => exact ⟨(wrap64 (x5_1 + 1)), s1_, H', ⟨by have := HK1.out; omega⟩, by repeat (first | exact Drawn0.refl _ | apply Drawn0.step)⟩
       ·rw [if_neg c7] at H
        have c7b0 : ((rdOf ByteArray.empty l0 x5_1).toList == (rdOf ByteArray.empty l1 x5_1).toList) = false := beq_eq_false_iff_ne.mpr c7
        have c7b1 : ((rdOf ByteArray.empty l0 x5_1).toList != (rdOf ByteArray.empty l1 x5_1).toList) = true := bne_iff_ne.mpr c7
        obtain rfl := Option.some.inj H
        have p433 : 0 ≤ (x5_1 : Int) := of_decide_eq_true (by first | (with_reducible assumption) | assumption)
        have q433 : x5_1 < (l0.length : Int) := of_decide_eq_true (by first | (with_reducible assumption) | assumption)
        obtain ⟨ad433, e433, hx433_0⟩ := Kd.at_string HR0.out x5_1 p433 q433
        cases e433
        replace p433 := eq_true p433
        replace q433 := eq_true q433
        have p434 : 0 ≤ (x5_1 : Int) := of_decide_eq_true (by first | (with_reducible assumption) | assumption)
        have q434 : x5_1 < (l1.length : Int) := of_decide_eq_true (by first | (with_reducible assumption) | assumption)
        obtain ⟨ad434, e434, hx434_0⟩ := Kd.at_string HR1.out x5_1 p434 q434
        cases e434
        replace p434 := eq_true p434
        replace q434 := eq_true q434
        go_wp2
        repeat (go_quiet (fail); try go_wp2)
        go_ret
        exact ⟨s1_, by repeat (first | exact Drawn0.refl _ | apply Drawn0.step)⟩
      ·rw [if_neg c6] at H
       exact absurd H (by simp)
     ·rw [if_neg c5] at H
      exact absurd H (by simp)
    ·rw [if_neg c4] at H
     have c4b0 : decide (x5_1 < (l0.length : Int)) = false := decide_eq_false c4
     clear c4
     obtain rfl := Option.some.inj H
     go_wp2
     repeat (go_quiet (fail); try go_wp2)
     go_ret
     exact ⟨s1_, by repeat (first | exact Drawn0.refl _ | apply Drawn0.step)⟩
 ·rw [if_neg c3] at H
  have c3b0 : ((l0.length : Int) == (l1.length : Int)) = false := beq_eq_false_iff_ne.mpr c3
  have c3b1 : ((l0.length : Int) != (l1.length : Int)) = true := bne_iff_ne.mpr c3
  have c3b2 : (l0.length == l1.length) = false := by first | simpa using c3 | (simp at c3 ⊢; omega)
  obtain rfl := Option.some.inj H
  go_enter Try.func16, Try.ntmps16
  go_wp2
  repeat (go_quiet (fail); try go_wp2)
  go_ret
  exact ⟨s1_, by repeat (first | exact Drawn0.refl _ | apply Drawn0.step)⟩
mutual
def conciergeref15_From.l0 : Nat → ByteArray → ByteArray → Int → Int → List (S52) → List ByteArray → Option (ByteArray)
 | 0, _, _, _, _, _, _ => none
 | k + 1, x1, x5, x6, x7, x436000, x436001 => if x7 < (x436001.length : Int) then (if 0 ≤ x7 then (if ((rdOf ByteArray.empty x436001 x7).size : Int) = (x1.size : Int) then (if (x1.size : Int) = 4 then (conciergeref15_From.j1 k x1 x5 x6 x7 (rdOf ByteArray.empty x436001 x7) false x436000 x436001) else (conciergeref15_From.j1 k x1 x5 x6 x7 (rdOf ByteArray.empty x436001 x7) ((x1.size : Int) != 16) x436000 x436001)) else (conciergeref15_From.j1 k x1 x5 x6 x7 (rdOf ByteArray.empty x436001 x7) true x436000 x436001)) else (none)) else (some x5)
def conciergeref15_From.j1 : Nat → ByteArray → ByteArray → Int → Int → ByteArray → Bool → List (S52) → List ByteArray → Option (ByteArray)
 | 0, _, _, _, _, _, _, _, _ => none
 | k + 1, x1, x5, x6, x7, x8, x36, x436000, x436001 => if x36 = true then (conciergeref15_From.l0 k x1 x5 x6 (wrap64 (x7 + 1)) x436000 x436001) else ((conciergeref2_Common.f k x8 x1).bind fun t437 => (if t437 > x6 then (conciergeref15_From.l0 k x1 x8 t437 (wrap64 (x7 + 1)) x436000 x436001) else (conciergeref15_From.l0 k x1 x5 x6 (wrap64 (x7 + 1)) x436000 x436001)))
end
def conciergeref15_From.f (k : Nat) (l0_0 : List (S52)) (l0_1 : List ByteArray) (a1 : ByteArray) : Option (ByteArray) := conciergeref15_From.l0 k a1 (⟨#[]⟩ : ByteArray) (-1) 0 l0_0 l0_1
set_option maxHeartbeats 8000000 in
set_option maxRecDepth 100000 in
theorem conciergeref15_From.calls (k : Nat) (A0_0 : Option Addr) (c0_0 : Nat) (l0_0 : List (S52)) (A0_1 : Option Addr) (c0_1 : Nat) (l0_1 : List ByteArray) (a1 : ByteArray) (r : ByteArray) (w : World) (hr0_0 : Kd.C k52 w A0_0 l0_0.length l0_0) (hc0_0 : l0_0.length ≤ c0_0) (hr0_1 : Kd.C Kd.string w A0_1 l0_1.length l0_1) (hc0_1 : l0_1.length ≤ c0_1) (h : conciergeref15_From.f k l0_0 l0_1 a1 = some r) :
  Calls Try.prog 37 #[.agg #[.slice A0_0 l0_0.length c0_0, .slice A0_1 l0_1.length c0_1], .string a1] w fun e w' => e = .returned (.string r) ∧ Below w.heap.size w w' := by
 have hu28 := Try.underlying28
 have HR0_0 := Aside0.mk hr0_0
 have HC0_0 := Aside0.mk hc0_0
 clear hr0_0 hc0_0
 have HR0_1 := Aside0.mk hr0_1
 have HC0_1 := Aside0.mk hc0_1
 clear hr0_1 hc0_1
 have HB := Aside0.mk (Below.refl w.heap.size w)
 have H : (conciergeref15_From.l0 k a1 (⟨#[]⟩ : ByteArray) (-1) 0 l0_0 l0_1) = some r := h
 clear h
 have H' := Aside0.mk H
 clear H
 go_enter Try.func37, Try.ntmps37
 go_wp2_with (first | ((with_reducible refine gate_dst (N := 2) rfl ?_); (try (refine gate_guard (by rfl) ?_; dsimp only)); refine box_event ?hg (N := 2) ?hd (cs := #[.slice A0_0 l0_0.length c0_0, .slice A0_1 l0_1.length c0_1]) (t := 28) ?hr ?_; (case hd => rfl); (case hg => rfl); (case hr => first | (go_simp; done) | (go_simp; rfl)); intro gb435 hg w3 hbox hb; have n0_ := Aside0.mk (below_step (fB0) hb); have n1_ := Aside0.mk (hbox); have n2_ := Aside0.mk ((by rw [hg]; exact (below_size (fB0)) : w.heap.size ≤ gb435)); have n3_ := Aside0.mk ((by rw [hg]; exact (below_size (fB0)) : w.heap.size ≤ gb435)); clear HB; have HB := n0_; have BK435 := n1_; have GW435 := n2_; have GE435 := n3_; clear n0_ n1_ n2_ n3_; clear hb hbox hg))
 go_loopg [5, 6, 7] k (fun kq v5 v6 v7 w' => ∃ (x5_1 : ByteArray) (x6_1 : Int) (x7_1 : Int), v5 = .string x5_1 ∧ v6 = .int .i64 x6_1 ∧ v7 = .int .i64 x7_1 ∧ Aside0 (conciergeref15_From.l0 kq a1 x5_1 x6_1 x7_1 l0_0 l0_1 = some r) ∧ Aside0 (kq ≤ k) ∧ Aside0 (w'.heap[gb435]? = some (.cells #[(.slice A0_0 l0_0.length c0_0), (.slice A0_1 l0_1.length c0_1)] 28 (0, 0))) ∧ Aside0 (Below w.heap.size w w'))
 case atStart => exact ⟨((⟨#[]⟩ : ByteArray)), ((-1)), (0), s1_, s1_, s1_, H', ⟨Nat.le_refl _⟩, ⟨(fA1 BK435)⟩, ⟨(fB1 GE435)⟩⟩
 case round =>
  clear H'
  try clear p2
  try clear c3
  obtain ⟨x5_1, x6_1, x7_1, rfl, rfl, rfl, HA, HK1, BK435, HB⟩ := hrel
  cases gk with
  | zero => exact absurd HA.out (by simp [conciergeref15_From.l0])
  | succ k1 =>
   have H := HA.out
   clear HA
   simp only [conciergeref15_From.l0] at H
   by_cases c4 : x7_1 < (l0_1.length : Int)
   ·rw [if_pos c4] at H
    have c4b0 : decide (x7_1 < (l0_1.length : Int)) = true := decide_eq_true c4
    clear c4
    by_cases c5 : 0 ≤ x7_1
    ·rw [if_pos c5] at H
     have c5b0 : decide (0 ≤ x7_1) = true := decide_eq_true c5
     clear c5
     have HC6 := Aside0.mk H
     clear H
     have hcz7_0 : wr.cell? ⟨gb435, 0, none⟩ = some (.slice A0_0 l0_0.length c0_0) := (blk_cell BK435.out 0).trans rfl
     have hcz7_1 : wr.cell? ⟨gb435, 1, none⟩ = some (.slice A0_1 l0_1.length c0_1) := (blk_cell BK435.out 1).trans rfl
     have hfz7_0 := blk_frozen BK435.out 0
     have hfz7_1 := blk_frozen BK435.out 1
     have p436 : 0 ≤ (x7_1 : Int) := of_decide_eq_true (by first | (with_reducible assumption) | assumption)
     have q436 : x7_1 < (l0_1.length : Int) := of_decide_eq_true (by first | (with_reducible assumption) | assumption)
     obtain ⟨ad436, e436, hx436_0⟩ := Kd.at_string HR0_1.out x7_1 p436 q436
     cases e436
     replace hx436_0 := (HB.out.cell (World.block_lt_of_cell? w _ hx436_0)).trans hx436_0
     replace p436 := eq_true p436
     replace q436 := eq_true q436
     go_upto_region 6 with (fail)
     go_cut [36] (fun v36 wc => ∃ (kq : Nat) (x36_5 : Bool), v36 = .bool x36_5 ∧ Aside0 (conciergeref15_From.j1 kq a1 x5_1 x6_1 x7_1 (rdOf ByteArray.empty l0_1 x7_1) x36_5 l0_0 l0_1 = some r) ∧ Aside0 (kq ≤ k1) ∧ Aside0 (wc.heap[gb435]? = some (.cells #[(.slice A0_0 l0_0.length c0_0), (.slice (some ad436) l0_1.length c0_1)] 28 (0, 0))) ∧ Aside0 (Below w.heap.size w wc))
     case first =>
      have H := HC6.out
      clear HC6
      by_cases c8 : ((rdOf ByteArray.empty l0_1 x7_1).size : Int) = (a1.size : Int)
      ·rw [if_pos c8] at H
       have c8b0 : (((rdOf ByteArray.empty l0_1 x7_1).size : Int) == (a1.size : Int)) = true := beq_iff_eq.mpr c8
       have c8b1 : (((rdOf ByteArray.empty l0_1 x7_1).size : Int) != (a1.size : Int)) = false := bne_eq_false_iff_eq.mpr c8
       have c8b2 : ((rdOf ByteArray.empty l0_1 x7_1).size == a1.size) = true := by first | simpa using c8 | (simp at c8 ⊢; omega)
       clear c8
       (first | rw [c8b0] | (simp only [i64_w, i32_w]; rw [c8b0]) | skip)
       by_cases c9 : (a1.size : Int) = 4
       ·rw [if_pos c9] at H
        have c9b0 : ((a1.size : Int) == 4) = true := beq_iff_eq.mpr c9
        have c9b1 : ((a1.size : Int) != 4) = false := bne_eq_false_iff_eq.mpr c9
        clear c9
        have H' := Aside0.mk H
        clear H
        go_wp2
        go_meet
        case rel => exact ⟨_, (false), s1_, H', ⟨by have := HK1.out; first | omega | exact Nat.le_refl _⟩, ⟨(fA1 BK435)⟩, ⟨(fB1 GE435)⟩⟩
       ·rw [if_neg c9] at H
        have c9b0 : ((a1.size : Int) == 4) = false := beq_eq_false_iff_ne.mpr c9
        have c9b1 : ((a1.size : Int) != 4) = true := bne_iff_ne.mpr c9
        have H' := Aside0.mk H
        clear H
        go_wp2
        go_meet
        case rel => exact ⟨_, (((a1.size : Int) != 16)), s1_, H', ⟨by have := HK1.out; first | omega | exact Nat.le_refl _⟩, ⟨(fA1 BK435)⟩, ⟨(fB1 GE435)⟩⟩
      ·rw [if_neg c8] at H
       have c8b0 : (((rdOf ByteArray.empty l0_1 x7_1).size : Int) == (a1.size : Int)) = false := beq_eq_false_iff_ne.mpr c8
       have c8b1 : (((rdOf ByteArray.empty l0_1 x7_1).size : Int) != (a1.size : Int)) = true := bne_iff_ne.mpr c8
       have c8b2 : ((rdOf ByteArray.empty l0_1 x7_1).size == a1.size) = false := by first | simpa using c8 | (simp at c8 ⊢; omega)
       (first | rw [c8b0] | (simp only [i64_w, i32_w]; rw [c8b0]) | skip)
       have H' := Aside0.mk H
       clear H
       go_wp2
       go_meet
       case rel => exact ⟨_, (true), s1_, H', ⟨by have := HK1.out; first | omega | exact Nat.le_refl _⟩, ⟨(fA1 BK435)⟩, ⟨(fB1 GE435)⟩⟩
     case rest =>
      clear HC6
      try clear p2
      try clear c3
      try clear c4
      try clear c4b0
      try clear p4
      try clear q4
      try clear hx4
      try clear c5
      try clear c5b0
      try clear c8
      try clear c8b0
      try clear c8b1
      try clear c8b2
      try clear c9
      try clear c9b0
      try clear c9b1
      try clear hcz7_0
      try clear hcz7_1
      try clear hfz7_0
      try clear hfz7_1
      try clear hx436_0
      try clear p2
      try clear p436
      try clear q436
      obtain ⟨kq, x36_5, rfl, HA, HJ5, BK435, HB⟩ := hcut
      cases kq with
      | zero => exact absurd HA.out (by simp [conciergeref15_From.j1])
      | succ kj5 =>
       have H := HA.out
       clear HA
       simp only [conciergeref15_From.j1] at H
       by_cases c10 : x36_5 = true
       ·subst c10
        rw [if_pos rfl] at H
        have H' := Aside0.mk H
        clear H
        go_wp2
        go_roundg kj5
        case measure => have := HK1.out; have := HJ5.out; omega
        case rel => exact ⟨(x5_1), (x6_1), (wrap64 (x7_1 + 1)), s1_, s1_, s1_, H', ⟨by have := HK1.out; have := HJ5.out; omega⟩, ⟨(fA1 BK435)⟩, ⟨(fB1 GE435)⟩⟩
       ·replace c10 := Bool.eq_false_iff.mpr c10
        subst c10
        rw [if_neg (show ¬ (false = true) by decide)] at H
        replace H := Option.bind_eq_some_iff.mp H
        obtain ⟨t437, A110, H⟩ := H
        have A11 := Aside0.mk A110
        clear A110
        by_cases c12 : t437 > x6_1
        ·rw [if_pos c12] at H
         have c12b0 : decide (x6_1 < t437) = true := decide_eq_true c12
         clear c12
         have H' := Aside0.mk H
         clear H
         go_wp2_with (first | ((with_reducible refine gate_callee (f := 35) rfl ?_); refine goesL_ (some 39) rfl rfl Try.func35 (by kernel_rfl) rfl #[.string (rdOf ByteArray.empty l0_1 x7_1), .string a1] rfl s2_ ?_; (with_reducible refine (conciergeref2_Common.calls kj5 (rdOf ByteArray.empty l0_1 x7_1) a1 t437 _ A11.out).mono ?_); rintro e w' ⟨rfl, ⟨nd, rfl⟩⟩; refine ⟨_, rfl, ?_⟩))
         go_roundg kj5
         case measure => have := HK1.out; have := HJ5.out; omega
         case rel => exact ⟨((rdOf ByteArray.empty l0_1 x7_1)), (t437), (wrap64 (x7_1 + 1)), s1_, s1_, s1_, H', ⟨by have := HK1.out; have := HJ5.out; omega⟩, ⟨(fA1 BK435)⟩, ⟨(fB1 GE435)⟩⟩
        ·rw [if_neg c12] at H
         have c12b0 : decide (x6_1 < t437) = false := decide_eq_false c12
         clear c12
         have H' := Aside0.mk H
         clear H
         go_wp2_with (first | ((with_reducible refine gate_callee (f := 35) rfl ?_); refine goesL_ (some 39) rfl rfl Try.func35 (by kernel_rfl) rfl #[.string (rdOf ByteArray.empty l0_1 x7_1), .string a1] rfl s2_ ?_; (with_reducible refine (conciergeref2_Common.calls kj5 (rdOf ByteArray.empty l0_1 x7_1) a1 t437 _ A11.out).mono ?_); rintro e w' ⟨rfl, ⟨nd, rfl⟩⟩; refine ⟨_, rfl, ?_⟩))
         go_roundg kj5
         case measure => have := HK1.out; have := HJ5.out; omega
         case rel => exact ⟨(x5_1), (x6_1), (wrap64 (x7_1 + 1)), s1_, s1_, s1_, H', ⟨by have := HK1.out; have := HJ5.out; omega⟩, ⟨(fA1 BK435)⟩, ⟨(fB1 GE435)⟩⟩
    ·rw [if_neg c5] at H
     exact absurd H (by simp)
   ·rw [if_neg c4] at H
    have c4b0 : decide (x7_1 < (l0_1.length : Int)) = false := decide_eq_false c4
    clear c4
    obtain rfl := Option.some.inj H
    have hcz13_0 : wr.cell? ⟨gb435, 0, none⟩ = some (.slice A0_0 l0_0.length c0_0) := (blk_cell BK435.out 0).trans rfl
    have hcz13_1 : wr.cell? ⟨gb435, 1, none⟩ = some (.slice A0_1 l0_1.length c0_1) := (blk_cell BK435.out 1).trans rfl
    have hfz13_0 := blk_frozen BK435.out 0
    have hfz13_1 := blk_frozen BK435.out 1
    go_wp2
    go_ret
    exact ⟨by first | rfl | (simp [errW_none, errW_some] <;> rfl) | (simp [*, errW_none, errW_some] <;> rfl), (fB1 GE435)⟩
mutual
def conciergeref15_Addrs.l0 : Nat → List ByteArray → List (S34) → Int → List (S52) → List ByteArray → Option (List ByteArray)
 | 0, _, _, _, _, _ => none
 | k + 1, x1, x5, x6, x439000, x439001 => if x6 < (x1.length : Int) then (if 0 ≤ x6 then ((conciergeref15_From.f k x439000 x439001 (rdOf ByteArray.empty x1 x6)).bind fun t441 => (if x5.length < 4398046511104 then (conciergeref15_Addrs.l0 k x1 (x5 ++ [(⟨rdOf ByteArray.empty x1 x6, t441⟩ : S34)]) (wrap64 (x6 + 1)) x439000 x439001) else (none))) else (none)) else ((conciergeref15_Sort.f k x439000 x439001 x5).bind fun t445 => (conciergeref15_Addrs.l1 k t445 ([] : List ByteArray) 0))
def conciergeref15_Addrs.l1 : Nat → List (S34) → List ByteArray → Int → Option (List ByteArray)
 | 0, _, _, _ => none
 | k + 1, x5, x7, x8 => if x8 < (x5.length : Int) then (if 0 ≤ x8 then (if x7.length < 8796093022208 then (conciergeref15_Addrs.l1 k x5 (x7 ++ [(rd_T34 x5 x8).f0]) (wrap64 (x8 + 1))) else (none)) else (none)) else (some x7)
end
def conciergeref15_Addrs.f (k : Nat) (l0_0 : List (S52)) (l0_1 : List ByteArray) (l1 : List ByteArray) : Option (List ByteArray) := conciergeref15_Addrs.l0 k l1 ([] : List (S34)) 0 l0_0 l0_1
def conciergeref15_Addrs.T5 : Bool × List (List Nat × List Nat) := (true, [([], []), ([], []), ([], []), ([1, 2], [1, 2]), ([3], [3]), ([], []), ([], []), ([], []), ([6, 7], [6, 7]), ([8], [8]), ([5, 9], [5, 9]), ([4, 10], [4, 10]), ([11], [11]), ([0, 12, 10], [0, 12]), ([13, 13, 0, 1, 2, 3, 4, 5, 6, 7, 8, 9, 10, 11, 12, 13], [0, 13])])
def conciergeref15_Addrs.B5 : List Nat := [0, 0, 0, 6, 14, 0, 0, 0, 192, 448, 992, 2046, 4094, 8191, 16383]
theorem conciergeref15_Addrs.tab5 : rtab .any (opsOf Try.f18 5) = conciergeref15_Addrs.T5 := by kernel_rfl
theorem conciergeref15_Addrs.bits5 : waitsOk conciergeref15_Addrs.T5.2 conciergeref15_Addrs.B5 = true := by kernel_rfl
set_option maxHeartbeats 8000000 in
set_option maxRecDepth 100000 in
theorem conciergeref15_Addrs.calls (k : Nat) (A0_0 : Option Addr) (c0_0 : Nat) (l0_0 : List (S52)) (A0_1 : Option Addr) (c0_1 : Nat) (l0_1 : List ByteArray) (A1 : Option Addr) (c1 : Nat) (l1 : List ByteArray) (r : List ByteArray) (w : World) (hr0_0 : Kd.C k52 w A0_0 l0_0.length l0_0) (hc0_0 : l0_0.length ≤ c0_0) (hr0_1 : Kd.C Kd.string w A0_1 l0_1.length l0_1) (hc0_1 : l0_1.length ≤ c0_1) (hr1 : Kd.C Kd.string w A1 l1.length l1) (hc1 : l1.length ≤ c1) (h : conciergeref15_Addrs.f k l0_0 l0_1 l1 = some r) :
  Calls Try.prog 18 #[.agg #[.slice A0_0 l0_0.length c0_0, .slice A0_1 l0_1.length c0_1], .slice A1 l1.length c1] w fun e w' => ∃ v0_ : Value, e = .returned (v0_) ∧ Kd.R Kd.string 9 w' w.heap.size (fun _ => True) v0_ r ∧ Below w.heap.size w w' := by
 have hu28 := Try.underlying28
 have hu34 := Try.underlying34
 have HR0_0 := Aside0.mk hr0_0
 have HC0_0 := Aside0.mk hc0_0
 clear hr0_0 hc0_0
 have HR0_1 := Aside0.mk hr0_1
 have HC0_1 := Aside0.mk hc0_1
 clear hr0_1 hc0_1
 have HR1 := Aside0.mk hr1
 have HC1 := Aside0.mk hc1
 clear hr1 hc1
 have HB := Aside0.mk (Below.refl w.heap.size w)
 have H : (conciergeref15_Addrs.l0 k l1 ([] : List (S34)) 0 l0_0 l0_1) = some r := h
 clear h
 have H' := Aside0.mk H
 clear H
 go_enter Try.func18, Try.ntmps18
 go_wp2_with (first | ((with_reducible refine gate_dst (N := 2) rfl ?_); refine box_event ?hg (N := 2) ?hd (cs := #[.slice A0_0 l0_0.length c0_0, .slice A0_1 l0_1.length c0_1]) (t := 28) ?hr ?_; (case hd => rfl); (case hg => rfl); (case hr => first | (go_simp; done) | (go_simp; rfl)); intro gb438 hg w3 hbox hb; have n0_ := Aside0.mk (below_step (fB0) hb); have n1_ := Aside0.mk (hbox); have n2_ := Aside0.mk ((by rw [hg]; exact (below_size (fB0)) : w.heap.size ≤ gb438)); have n3_ := Aside0.mk ((by rw [hg]; exact (below_size (fB0)) : w.heap.size ≤ gb438)); clear HB; have HB := n0_; have BK438 := n1_; have GW438 := n2_; have GE438 := n3_; clear n0_ n1_ n2_ n3_; clear hb hbox hg))
 go_loopg [5, 6] k (fun kq v5 v6 w' => ∃ (x5_1 : List (S34)) (x6_1 : Int), v6 = .int .i64 x6_1 ∧ Aside0 (conciergeref15_Addrs.l0 kq l1 x5_1 x6_1 l0_0 l0_1 = some r) ∧ Aside0 (kq ≤ k) ∧ Aside0 (Kd.R k34 34 w' w.heap.size (fun _ => True) v5 x5_1) ∧ Aside0 (w'.heap[gb438]? = some (.cells #[(.slice A0_0 l0_0.length c0_0), (.slice A0_1 l0_1.length c0_1)] 28 (0, 0))) ∧ Aside0 (Below w.heap.size w w'))
 case atStart => exact ⟨(([] : List (S34))), (0), s1_, H', ⟨Nat.le_refl _⟩, ⟨by first | exact Kd.R_nil _ _ _ _ _ | exact Kd.N_nil _ _ _ _ _ | exact Kd.V_nil _ _ _ _ _ | exact Kd.Q_nil _ _ _ _ _ | exact Kd.S_nil _ _ _ _ _⟩, ⟨(fA1 BK438)⟩, ⟨(fB1 GE438)⟩⟩
 case round =>
  clear H'
  try clear c1
  try clear p2
  obtain ⟨x5_1, x6_1, rfl, HA, HK1, HO_5, BK438, HB⟩ := hrel
  cases gk with
  | zero => exact absurd HA.out (by simp [conciergeref15_Addrs.l0])
  | succ k1 =>
   have H := HA.out
   clear HA
   simp only [conciergeref15_Addrs.l0] at H
   by_cases c4 : x6_1 < (l1.length : Int)
   ·rw [if_pos c4] at H
    have c4b0 : decide (x6_1 < (l1.length : Int)) = true := decide_eq_true c4
    clear c4
    by_cases c5 : 0 ≤ x6_1
    ·rw [if_pos c5] at H
     have c5b0 : decide (0 ≤ x6_1) = true := decide_eq_true c5
     clear c5
     replace H := Option.bind_eq_some_iff.mp H
     obtain ⟨t441, A60, H⟩ := H
     have A6 := Aside0.mk A60
     clear A60
     by_cases c7 : x5_1.length < 4398046511104
     ·rw [if_pos c7] at H
      have LMc7 := Aside0.mk c7
      clear c7
      obtain ⟨y442, hy442⟩ : ∃ y_ : List (S34), y_ = (x5_1 ++ [(⟨rdOf ByteArray.empty l1 x6_1, t441⟩ : S34)]) := ⟨_, rfl⟩
      replace H : (conciergeref15_Addrs.l0 k1 l1 y442 (wrap64 (x6_1 + 1)) l0_0 l0_1) = some r := by first | (rw [hy442]; with_reducible exact H) | (have H2_ := (Option.bind_some _ _).symm.trans H; rw [hy442]; with_reducible exact H2_) | (have H2_ := (Option.bind_some _ _).symm.trans H; with_reducible exact H2_) | with_reducible exact H | (rw [hy442]; exact H) | exact H
      have Ny442 := Aside0.mk hy442
      clear hy442
      have H' := Aside0.mk H
      clear H
      try go_wp2
      have n0_ := Aside0.mk (Kd.R_drew HO_5.out)
      have n1_ := Aside0.mk (blk_drew BK438.out)
      have n2_ := Aside0.mk (below_drew1 HB.out)
      clear HO_5
      clear BK438
      clear HB
      have HO_5 := n0_
      have BK438 := n1_
      have HB := n2_
      clear n0_ n1_ n2_
      have p439 : 0 ≤ (x6_1 : Int) := of_decide_eq_true (by first | (with_reducible assumption) | assumption)
      have q439 : x6_1 < (l1.length : Int) := of_decide_eq_true (by first | (with_reducible assumption) | assumption)
      obtain ⟨ad439, e439, hx439_0⟩ := Kd.at_string HR1.out x6_1 p439 q439
      have hw439_0 := hx439_0
      cases e439
      replace hx439_0 := (HB.out.cell (World.block_lt_of_cell? w _ hx439_0)).trans hx439_0
      replace p439 := eq_true p439
      replace q439 := eq_true q439
      have p440 : 0 ≤ (x6_1 : Int) := of_decide_eq_true (by first | (with_reducible assumption) | assumption)
      have q440 : x6_1 < (l1.length : Int) := of_decide_eq_true (by first | (with_reducible assumption) | assumption)
      obtain ⟨ad440, e440, hx440_0⟩ := Kd.at_string HR1.out x6_1 p440 q440
      have hw440_0 := hx440_0
      obtain rfl : ad439 = ad440 := (by injection e440)
      replace hx440_0 := (HB.out.cell (World.block_lt_of_cell? w _ hx440_0)).trans hx440_0
      replace p440 := eq_true p440
      replace q440 := eq_true q440
      refine start_ (n := 15) (S := fun w' => w'.cell? ⟨gb438, 0, none⟩ = some (.slice A0_0 l0_0.length c0_0) ∧ w'.cell? ⟨gb438, 1, none⟩ = some (.slice A0_1 l0_1.length c0_1) ∧ w'.cell? (ad439.add (x6_1).toNat) = some (.string (rdOf ByteArray.empty l1 x6_1)) ∧ w'.cell? (ad439.add (x6_1).toNat) = some (.string (rdOf ByteArray.empty l1 x6_1))) (ds := []) #[false, false, false, false, false, false, false, false, false, false, false, false, false, false, false] (by kernel_rfl) rfl rfl ⟨(blk_cell BK438.out 0).trans rfl, (blk_cell BK438.out 1).trans rfl, ((HB.out.cell (World.block_lt_of_cell? w _ hw439_0)).trans hw439_0), ((HB.out.cell (World.block_lt_of_cell? w _ hw440_0)).trans hw440_0)⟩ (fun hHeld => ?_); refine with_tabW conciergeref15_Addrs.tab5 conciergeref15_Addrs.bits5 (fun HT_ HW_ => ?_)
      generalize wr.drew = w8 at HO_5 BK438 HB hx439_0 hx440_0 hHeld ⊢
      refine pure_ (i := 0) (N := some 15) (v := ?_) (a' := ?_) #[true, false, false, false, false, false, false, false, false, false, false, false, false, false, false] rfl rfl (any_of HT_.out (by kernel_rfl)) (fun _ _ _ h => h) (Or.inl ⟨by rfl, ?_⟩) ?_ ?_
      rotate_left
      ·intro w'
       go_simp
       with_reducible rfl
      rotate_left
      ·simp only [Act.put, List.setIfInBounds_toArray, List.set_cons_zero, List.set_cons_succ, i64_w, i32_w]
       rfl
      refine pure_ (i := 1) (N := some 16) (v := ?_) (a' := ?_) #[true, true, false, false, false, false, false, false, false, false, false, false, false, false, false] rfl rfl (any_of HT_.out (by kernel_rfl)) (fun _ _ _ h => h) (Or.inl ⟨by rfl, ?_⟩) ?_ ?_
      rotate_left
      ·intro w'
       go_simp
       with_reducible rfl
      rotate_left
      ·simp only [Act.put, List.setIfInBounds_toArray, List.set_cons_zero, List.set_cons_succ, i64_w, i32_w]
       rfl
      refine pure_ (i := 2) (N := some 17) (v := ?_) (a' := ?_) #[true, true, true, false, false, false, false, false, false, false, false, false, false, false, false] rfl rfl (any_of HT_.out (by kernel_rfl)) (fun _ _ _ h => h) (Or.inl ⟨by rfl, ?_⟩) ?_ ?_
      rotate_left
      ·intro w'
       go_simp
       with_reducible rfl
      rotate_left
      ·simp only [Act.put, List.setIfInBounds_toArray, List.set_cons_zero, List.set_cons_succ, i64_w, i32_w]
       rfl
      refine pure_ (i := 3) (N := some 18) (v := ?_) (a' := ?_) #[true, true, true, true, false, false, false, false, false, false, false, false, false, false, false] rfl rfl (any_of HT_.out (by kernel_rfl)) (fun _ _ _ h => h) (Or.inl ⟨by rfl, ?_⟩) ?_ ?_
      rotate_left
      ·intro w'
       go_simp
       with_reducible rfl
      rotate_left
      ·simp only [Act.put, List.setIfInBounds_toArray, List.set_cons_zero, List.set_cons_succ, i64_w, i32_w]
       rfl
      refine pure_ (i := 6) (N := some 21) (v := ?_) (a' := ?_) #[true, true, true, true, false, false, true, false, false, false, false, false, false, false, false] rfl rfl (any_of HT_.out (by kernel_rfl)) (fun _ _ _ h => h) (Or.inl ⟨by rfl, ?_⟩) ?_ ?_
      rotate_left
      ·intro w'
       go_simp
       with_reducible rfl
      rotate_left
      ·simp only [Act.put, List.setIfInBounds_toArray, List.set_cons_zero, List.set_cons_succ, i64_w, i32_w]
       rfl
      refine pure_ (i := 7) (N := some 22) (v := ?_) (a' := ?_) #[true, true, true, true, false, false, true, true, false, false, false, false, false, false, false] rfl rfl (any_of HT_.out (by kernel_rfl)) (fun _ _ _ h => h) (Or.inl ⟨by rfl, ?_⟩) ?_ ?_
      rotate_left
      ·intro w'
       go_simp
       with_reducible rfl
      rotate_left
      ·simp only [Act.put, List.setIfInBounds_toArray, List.set_cons_zero, List.set_cons_succ, i64_w, i32_w]
       rfl
      refine pure_ (i := 8) (N := some 23) (v := ?_) (a' := ?_) #[true, true, true, true, false, false, true, true, true, false, false, false, false, false, false] rfl rfl (any_of HT_.out (by kernel_rfl)) (fun _ _ _ h => h) (Or.inl ⟨by rfl, ?_⟩) ?_ ?_
      rotate_left
      ·intro w'
       go_simp
       with_reducible rfl
      rotate_left
      ·simp only [Act.put, List.setIfInBounds_toArray, List.set_cons_zero, List.set_cons_succ, i64_w, i32_w]
       rfl
      refine take_ (i := 4) (N := some 19) (v := ?_) (a' := ?_) #[true, true, true, true, true, false, true, true, true, false, false, false, false, false, false] rfl rfl (take_ofW HT_.out HW_.out (by kernel_rfl)) (fun _ _ _ h => h) (Or.inl ⟨by rfl, ?_⟩) hHeld ?_ ?_
      rotate_left
      ·rintro w' ⟨s0, s1, s2, s3⟩
       go_simp
       with_reducible rfl
      rotate_left
      ·simp only [Act.put, List.setIfInBounds_toArray, List.set_cons_zero, List.set_cons_succ, i64_w, i32_w]
       rfl
      refine take_ (i := 5) (N := some 20) (v := ?_) (a' := ?_) #[true, true, true, true, true, true, true, true, true, false, false, false, false, false, false] rfl rfl (take_ofW HT_.out HW_.out (by kernel_rfl)) (fun _ _ _ h => h) (Or.inl ⟨by rfl, ?_⟩) hHeld ?_ ?_
      rotate_left
      ·rintro w' ⟨s0, s1, s2, s3⟩
       go_simp
       with_reducible rfl
      rotate_left
      ·simp only [Act.put, List.setIfInBounds_toArray, List.set_cons_zero, List.set_cons_succ, i64_w, i32_w]
       rfl
      refine take_ (i := 9) (N := some 24) (v := ?_) (a' := ?_) #[true, true, true, true, true, true, true, true, true, true, false, false, false, false, false] rfl rfl (take_ofW HT_.out HW_.out (by kernel_rfl)) (fun _ _ _ h => h) (Or.inl ⟨by rfl, ?_⟩) hHeld ?_ ?_
      rotate_left
      ·rintro w' ⟨s0, s1, s2, s3⟩
       go_simp
       with_reducible rfl
      rotate_left
      ·simp only [Act.put, List.setIfInBounds_toArray, List.set_cons_zero, List.set_cons_succ, i64_w, i32_w]
       rfl
      refine one_ (i := 10) (N := some 25) #[true, true, true, true, true, true, true, true, true, true, true, false, false, false, false] rfl rfl (one_of HT_.out (by kernel_rfl)) (by decide) (fun K hK => ?_)
      refine goes_ Try.func37 (by kernel_rfl) rfl #[.agg #[.slice A0_0 l0_0.length c0_0, .slice A0_1 l0_1.length c0_1], .string (rdOf ByteArray.empty l1 x6_1)] (by rfl) rfl rfl s2_ ?_
      with_reducible refine (conciergeref15_From.calls k1 _ _ l0_0 _ _ l0_1 (rdOf ByteArray.empty l1 x6_1) t441 _ ?side1 ?side2 ?side3 ?side4 A6.out).mono ?_
      (case side1 => repeat (first | exact (Kd.C_below HR0_0.out HB.out) | (with_reducible refine Kd.C_alloc ?_ _) | (with_reducible refine Kd.C_drewN ?_ _) | (with_reducible refine Kd.C_drew ?_)))
      (case side2 => exact HC0_0.out)
      (case side3 => repeat (first | exact (Kd.C_below HR0_1.out HB.out) | (with_reducible refine Kd.C_alloc ?_ _) | (with_reducible refine Kd.C_drewN ?_ _) | (with_reducible refine Kd.C_drew ?_)))
      (case side4 => exact HC0_1.out)
      rintro e w9 ⟨rfl, hb⟩
      refine ⟨_, rfl, ?_⟩
      have n0_ := Aside0.mk (Kd.R_below (fA0 HO_5) hb)
      have n1_ := Aside0.mk (blk_below (g := gb438) (o := .cells #[.slice A0_0 l0_0.length c0_0, .slice A0_1 l0_1.length c0_1] 28 (0, 0)) (fA1 BK438) hb)
      have n2_ := Aside0.mk (below_step (fB1 GE438) hb)
      clear HO_5
      clear BK438
      clear HB
      have HO_5 := n0_
      have BK438 := n1_
      have HB := n2_
      clear n0_ n1_ n2_
      (try clear hb)
      (try clear hb2)
      (try clear hk)
      (try clear hi)
      refine hK.out _ _ ⟨(blk_cell BK438.out 0).trans rfl, (blk_cell BK438.out 1).trans rfl, ((HB.out.cell (World.block_lt_of_cell? w _ hw439_0)).trans hw439_0), ((HB.out.cell (World.block_lt_of_cell? w _ hw440_0)).trans hw440_0)⟩ (fun hHeld => ?_)
      clear hK K
      refine norm_ (a' := ?_) ?_ ?_
      rotate_left
      ·show Act.put _ (some 25) _ = _
       simp only [Act.put, List.setIfInBounds_toArray, List.set_cons_zero, List.set_cons_succ, i64_w, i32_w]
       rfl
      refine pure_ (i := 11) (N := some 26) (v := ?_) (a' := ?_) #[true, true, true, true, true, true, true, true, true, true, true, true, false, false, false] rfl rfl (any_of HT_.out (by kernel_rfl)) (fun _ _ _ h => h) (Or.inl ⟨by rfl, ?_⟩) ?_ ?_
      rotate_left
      ·intro w'
       go_simp
       with_reducible rfl
      rotate_left
      ·simp only [Act.put, List.setIfInBounds_toArray, List.set_cons_zero, List.set_cons_succ, i64_w, i32_w]
       rfl
      refine one_ (i := 12) (N := some 27) #[true, true, true, true, true, true, true, true, true, true, true, true, true, false, false] rfl rfl (one_of HT_.out (by kernel_rfl)) (by decide) (fun K hK => ?_)
      refine value_ (w1 := ?_) (v := ?_) (by rfl) rfl ?_ ?_
      rotate_left 2
      ·go_simp
       constructor
       ·rfl
       ·rfl
      refine hK.out _ _ ⟨(blk_cell (blk_alloc BK438.out _) 0).trans rfl, (blk_cell (blk_alloc BK438.out _) 1).trans rfl, (World.cell?_alloc_lt _ _ _ (World.block_lt_of_cell? _ _ (((HB.out.cell (World.block_lt_of_cell? w _ hw439_0)).trans hw439_0)))).trans (((HB.out.cell (World.block_lt_of_cell? w _ hw439_0)).trans hw439_0)), (World.cell?_alloc_lt _ _ _ (World.block_lt_of_cell? _ _ (((HB.out.cell (World.block_lt_of_cell? w _ hw440_0)).trans hw440_0)))).trans (((HB.out.cell (World.block_lt_of_cell? w _ hw440_0)).trans hw440_0))⟩ (fun hHeld => ?_)
      clear hK K
      refine norm_ (a' := ?_) ?_ ?_
      rotate_left
      ·show Act.put _ (some 27) _ = _
       simp only [Act.put, List.setIfInBounds_toArray, List.set_cons_zero, List.set_cons_succ, i64_w, i32_w]
       rfl
      refine one_ (i := 13) (N := some 28) #[true, true, true, true, true, true, true, true, true, true, true, true, true, true, false] rfl rfl (one_of HT_.out (by kernel_rfl)) (by decide) (fun K hK => ?_)
      refine Kd.R_append_step k34 (w0 := w) w.heap.size (by rfl) (.tmp 15) (.tmp 27) 23 34 (.agg #[(.string ⟨#[]⟩), (.string ⟨#[]⟩)]) 32 rfl Try.underlying23 info34 rfl (by decide) (by omega) u5 x5_1 (⟨rdOf ByteArray.empty l1 x6_1, t441⟩ : S34) [.string (rdOf ByteArray.empty l1 x6_1), .string t441] (fun _ => True) (fun _ => False) rfl rfl ?aP (fun _ hk => hk.elim) ?aF ?aO ?aB ?aS ?aL ?_
      (case aP => exact k34_mkM _ _ _ (⟨rdOf ByteArray.empty l1 x6_1, t441⟩ : S34))
      (case aB => exact (fB1 GE438))
      (case aF => exact (fun _ _ => trivial))
      (case aO => exact (fA0 HO_5))
      (case aS => exact (below_size (fB1 GE438)))
      (case aL => have := LMc7.out; omega)
      intro v443 w10 ho hb hg hat
      rw [← Ny442.out] at ho
      have n0_ := Aside0.mk (blk_grown (g := gb438) (o := .cells #[.slice A0_0 l0_0.length c0_0, .slice A0_1 l0_1.length c0_1] 28 (0, 0)) (fA1 BK438) hg (Kd.R_ne HO_5.out BK438.out (by decide)))
      have n1_ := Aside0.mk (hb)
      have n2_ := Aside0.mk (ho)
      clear BK438
      clear HB
      clear HO_5
      have BK438 := n0_
      have HB := n1_
      have HO444 := n2_
      clear n0_ n1_ n2_
      clear ho hb hg hat
      refine hK.out _ _ ⟨(blk_cell BK438.out 0).trans rfl, (blk_cell BK438.out 1).trans rfl, ((HB.out.cell (World.block_lt_of_cell? w _ hw439_0)).trans hw439_0), ((HB.out.cell (World.block_lt_of_cell? w _ hw440_0)).trans hw440_0)⟩ (fun hHeld => ?_)
      clear hK K
      refine norm_ (a' := ?_) ?_ ?_
      rotate_left
      ·show Act.put _ (some 28) _ = _
       simp only [Act.put, List.setIfInBounds_toArray, List.set_cons_zero, List.set_cons_succ, i64_w, i32_w]
       rfl
      refine pure_ (i := 14) (N := some 5) (v := ?_) (a' := ?_) #[true, true, true, true, true, true, true, true, true, true, true, true, true, true, true] rfl rfl (any_of HT_.out (by kernel_rfl)) (fun _ _ _ h => h) (Or.inl ⟨by rfl, ?_⟩) ?_ ?_
      rotate_left
      ·intro w'
       go_simp
       with_reducible rfl
      rotate_left
      ·simp only [Act.put, List.setIfInBounds_toArray, List.set_cons_zero, List.set_cons_succ, i64_w, i32_w]
       rfl
      refine done_ (done_of HT_.out (by kernel_rfl)) ?_
      try go_wp2
      go_roundg k1
      case measure => have := HK1.out; omega
      case rel => exact ⟨(y442), (wrap64 (x6_1 + 1)), s1_, H', ⟨by have := HK1.out; omega⟩, ⟨(fA0 HO444)⟩, ⟨(fA1 BK438)⟩, ⟨(fB1 GE438)⟩⟩
     ·rw [if_neg c7] at H
      exact absurd H (by simp)
    ·rw [if_neg c5] at H
     exact absurd H (by simp)
   ·rw [if_neg c4] at H
    have c4b0 : decide (x6_1 < (l1.length : Int)) = false := decide_eq_false c4
    clear c4
    replace H := Option.bind_eq_some_iff.mp H
    obtain ⟨t445, A110, H⟩ := H
    have A11 := Aside0.mk A110
    clear A110
    have H' := Aside0.mk H
    clear H
    have hcz12_0 : wr.cell? ⟨gb438, 0, none⟩ = some (.slice A0_0 l0_0.length c0_0) := (blk_cell BK438.out 0).trans rfl
    have hcz12_1 : wr.cell? ⟨gb438, 1, none⟩ = some (.slice A0_1 l0_1.length c0_1) := (blk_cell BK438.out 1).trans rfl
    have hfz12_0 := blk_frozen BK438.out 0
    have hfz12_1 := blk_frozen BK438.out 1
    obtain ⟨Ao13, co13, eo13⟩ := Kd.R_slice HO_5.out
    subst eo13
    go_wp2_with (first | ((with_reducible refine gate_callee (f := 12) rfl ?_); refine goesL_ (some 31) rfl rfl Try.func12 (by kernel_rfl) rfl #[.agg #[.slice A0_0 l0_0.length c0_0, .slice A0_1 l0_1.length c0_1], .slice Ao13 x5_1.length co13] rfl s2_ ?_; (with_reducible refine (conciergeref15_Sort.calls k1 _ _ l0_0 _ _ l0_1 _ _ x5_1 t445 _ ?side1 ?side2 ?side3 ?side4 ?side5 ?side6 A11.out).mono ?_); (case side1 => repeat (first | exact (Kd.C_below HR0_0.out HB.out) | (with_reducible refine Kd.C_alloc ?_ _) | (with_reducible refine Kd.C_drewN ?_ _) | (with_reducible refine Kd.C_drew ?_))); (case side2 => exact HC0_0.out); (case side3 => repeat (first | exact (Kd.C_below HR0_1.out HB.out) | (with_reducible refine Kd.C_alloc ?_ _) | (with_reducible refine Kd.C_drewN ?_ _) | (with_reducible refine Kd.C_drew ?_))); (case side4 => exact HC0_1.out); (case side5 => repeat (first | exact (Kd.R_reads' HO_5.out).2.2 | (with_reducible refine Kd.C_alloc ?_ _) | (with_reducible refine Kd.C_drewN ?_ _) | (with_reducible refine Kd.C_drew ?_))); (case side6 => exact (Kd.R_reads' HO_5.out).2.1); rintro e w14 ⟨v446, rfl, ho0, hb⟩; refine ⟨_, rfl, ?_⟩; have n0_ := Aside0.mk (Kd.R_elder' (fA0 HO_5) (Kd.R_base ho0) hb); have n1_ := Aside0.mk (Kd.R_lower (Kd.R_new' ho0 (Kd.R_lt (fA0 HO_5))) (below_size (fB1 GE438))); have n2_ := Aside0.mk (blk_below (g := gb438) (o := .cells #[.slice A0_0 l0_0.length c0_0, .slice A0_1 l0_1.length c0_1] 28 (0, 0)) (fA1 BK438) hb); have n3_ := Aside0.mk (below_step (fB1 GE438) hb); clear HO_5; clear BK438; clear HB; have HO_5 := n0_; have HO447 := n1_; have BK438 := n2_; have HB := n3_; clear n0_ n1_ n2_ n3_; (try clear hb); (try clear hb2); (try clear hk); (try clear hi); (try clear ho0)))
    go_loopg [7, 8] k1 (fun kq v7 v8 w' => ∃ (x7_2 : List ByteArray) (x8_2 : Int), v8 = .int .i64 x8_2 ∧ Aside0 (conciergeref15_Addrs.l1 kq t445 x7_2 x8_2 = some r) ∧ Aside0 (kq ≤ k1) ∧ Aside0 (Kd.R k34 34 w' w.heap.size (fun _ => True) v446 t445) ∧ Aside0 (Kd.R Kd.string 9 w' w.heap.size (fun _ => True) v7 x7_2) ∧ Aside0 (w'.heap[gb438]? = some (.cells #[(.slice A0_0 l0_0.length c0_0), (.slice A0_1 l0_1.length c0_1)] 28 (0, 0))) ∧ Aside0 (Below w.heap.size w w'))
    case atStart => exact ⟨(([] : List ByteArray)), (0), s1_, H', ⟨Nat.le_refl _⟩, ⟨by (with_reducible repeat (first | apply Kd.R_alloc | apply Kd.R_drewN | apply Kd.R_drew)); exact Kd.R_mono HO447.out (fun _ hk => trivial)⟩, ⟨by first | exact Kd.R_nil _ _ _ _ _ | exact Kd.N_nil _ _ _ _ _ | exact Kd.V_nil _ _ _ _ _ | exact Kd.Q_nil _ _ _ _ _ | exact Kd.S_nil _ _ _ _ _⟩, ⟨(fA1 BK438)⟩, ⟨(fB1 GE438)⟩⟩
    case round =>
     clear H'
     try clear c1
     try clear p2
     try clear c3
     try clear c4
     try clear c4b0
     try clear p4
     try clear q4
     try clear hx4
     try clear c5
     try clear c5b0
     try clear p6
     try clear c7
     try clear c12
     try clear hcz12_0
     try clear hcz12_1
     try clear hfz12_0
     try clear hfz12_1
     try clear hx439_0
     try clear hx440_0
     try clear p2
     try clear p439
     try clear p440
     try clear q439
     try clear q440
     obtain ⟨x7_2, x8_2, rfl, HA, HK2, HO_5, HO_7, BK438, HB⟩ := hrel
     cases gk with
     | zero => exact absurd HA.out (by simp [conciergeref15_Addrs.l1])
     | succ k2 =>
      have H := HA.out
      clear HA
      simp only [conciergeref15_Addrs.l1] at H
      by_cases c15 : x8_2 < (t445.length : Int)
      ·rw [if_pos c15] at H
       have c15b0 : decide (x8_2 < (t445.length : Int)) = true := decide_eq_true c15
       clear c15
       by_cases c16 : 0 ≤ x8_2
       ·rw [if_pos c16] at H
        have c16b0 : decide (0 ≤ x8_2) = true := decide_eq_true c16
        clear c16
        by_cases c17 : x7_2.length < 8796093022208
        ·rw [if_pos c17] at H
         have LMc17 := Aside0.mk c17
         clear c17
         obtain ⟨y449, hy449⟩ : ∃ y_ : List ByteArray, y_ = (x7_2 ++ [(rd_T34 t445 x8_2).f0]) := ⟨_, rfl⟩
         replace H : (conciergeref15_Addrs.l1 k2 t445 y449 (wrap64 (x8_2 + 1))) = some r := by first | (rw [hy449]; with_reducible exact H) | (have H2_ := (Option.bind_some _ _).symm.trans H; rw [hy449]; with_reducible exact H2_) | (have H2_ := (Option.bind_some _ _).symm.trans H; with_reducible exact H2_) | with_reducible exact H | (rw [hy449]; exact H) | exact H
         have Ny449 := Aside0.mk hy449
         clear hy449
         have H' := Aside0.mk H
         clear H
         obtain ⟨Ao18, co18, eo18⟩ := Kd.R_slice HO_5.out
         subst eo18
         have p448 : 0 ≤ (x8_2 : Int) := of_decide_eq_true (by first | (with_reducible assumption) | assumption)
         have q448 : x8_2 < (t445.length : Int) := of_decide_eq_true (by first | (with_reducible assumption) | assumption)
         obtain ⟨ad448, e448, hx448_0, hx448_1⟩ := at_T34 (Kd.R_reads' HO_5.out).2.2 x8_2 p448 q448
         cases e448
         replace p448 := eq_true p448
         replace q448 := eq_true q448
         go_wp2_with (first | ((with_reducible refine gate_builtin (b := .append) (xs := #[.tmp 38, .tmp 44]) rfl ?_); at_builtin; refine Kd.R_append Kd.string (w0 := w) w.heap.size rfl (.tmp 38) (.tmp 44) 26 9 (.string ⟨#[]⟩) 16 rfl Try.underlying26 info9 rfl (by decide) (by omega) u7 x7_2 ((rd_T34 t445 x8_2).f0) [.string ((rd_T34 t445 x8_2).f0)] (fun _ => True) (fun _ => False) rfl rfl ?aP (fun _ hk => hk.elim) ?aF ?aO ?aB ?aS ?aL ?_; (case aP => exact rfl); (case aB => exact (fB1 GE438)); (case aF => exact (fun _ _ => trivial)); (case aO => exact (fA0 HO_7)); (case aS => exact (below_size (fB1 GE438))); (case aL => have := LMc17.out; omega); intro v450 w19 ho hb hg hat; rw [← Ny449.out] at ho; have n0_ := Aside0.mk (Kd.R_over' (fA0 HO_5) (Kd.R_typed (fA0 HO_7)) (by decide) hg); have n1_ := Aside0.mk (blk_grown (g := gb438) (o := .cells #[.slice A0_0 l0_0.length c0_0, .slice A0_1 l0_1.length c0_1] 28 (0, 0)) (fA1 BK438) hg (Kd.R_ne HO_7.out BK438.out (by decide))); have n2_ := Aside0.mk (hb); have n3_ := Aside0.mk (ho); clear HO_5; clear BK438; clear HB; clear HO_7; have HO_5 := n0_; have BK438 := n1_; have HB := n2_; have HO451 := n3_; clear n0_ n1_ n2_ n3_; clear ho hb hg hat))
         go_roundg k2
         case measure => have := HK1.out; have := HK2.out; omega
         case rel => exact ⟨(y449), (wrap64 (x8_2 + 1)), s1_, H', ⟨by have := HK1.out; have := HK2.out; omega⟩, ⟨(fA0 HO_5)⟩, ⟨(fA0 HO451)⟩, ⟨(fA1 BK438)⟩, ⟨(fB1 GE438)⟩⟩
        ·rw [if_neg c17] at H
         exact absurd H (by simp)
       ·rw [if_neg c16] at H
        exact absurd H (by simp)
      ·rw [if_neg c15] at H
       have c15b0 : decide (x8_2 < (t445.length : Int)) = false := decide_eq_false c15
       clear c15
       obtain rfl := Option.some.inj H
       obtain ⟨Ao20, co20, eo20⟩ := Kd.R_slice HO_5.out
       subst eo20
       go_wp2
       go_ret
       exact ⟨_, by first | rfl | (simp [errW_none, errW_some] <;> rfl) | (simp [*, errW_none, errW_some] <;> rfl), (fA0 HO_7), (fB1 GE438)⟩
end Go.Proofs.Ytlfhahnceeoegaa.All
end
section
namespace Go.Proofs.Ytlfhahnceeoegaa.All
open Go.RowKit Go.Proofs.YtlfhahnceeoegaaW.PrintWords Go.Proofs.YtlfhahnceeoegaaW.PrintLast Go.Proofs.YtlfhahnceeoegaaW.PrintMore
set_option linter.unusedVariables false
set_option linter.unusedSimpArgs false
def conciergelaw20_OrderAddrs.l0 : Nat → List ByteArray → Bool → List ByteArray → Int → List (S52) → List ByteArray → Option (Bool)
 | 0, _, _, _, _, _, _ => none
 | k + 1, x1, x5, x7, x8, x463000, x463001 => if x8 < (x1.length : Int) then (if x8 < 20 then (if 0 ≤ x8 then ((conciergelaw2_Cut.f (rdOf ByteArray.empty x1 x8) 20).bind fun t464 => (if x7.length < 8796093022208 then (conciergelaw20_OrderAddrs.l0 k x1 x5 (x7 ++ [t464]) (wrap64 (x8 + 1)) x463000 x463001) else (none))) else (none)) else (if x5 = true then ((order_Addrs.f k x463000 x463001 x7).bind fun t468 => ((conciergeref15_Addrs.f k x463000 x463001 x7).bind fun t471 => ((conciergeref5_EqTexts.f k t468 t471).bind fun t474 => (some t474)))) else (some false))) else (if x5 = true then ((order_Addrs.f k x463000 x463001 x7).bind fun t475 => ((conciergeref15_Addrs.f k x463000 x463001 x7).bind fun t478 => ((conciergeref5_EqTexts.f k t475 t478).bind fun t481 => (some t481)))) else (some false))
def conciergelaw20_OrderAddrs.f (k : Nat) (l0 : List Int) (l1 : List ByteArray) : Option (Bool) := (conciergelaw20_begun.f k).bind fun t452 => (if t452 = true then ((conciergelaw1_Short.f l0 800).bind fun t453 => ((conciergeref15_Select.f k t453).bind fun bt456 => (conciergelaw20_OrderAddrs.l0 k l1 t452 ([] : List ByteArray) 0 bt456.1 bt456.2))) else (some false))
def conciergelaw20_OrderAddrs.T10 : Bool × List (List Nat × List Nat) := (true, [([], []), ([0], [0]), ([1], [1]), ([1], [1]), ([2, 3, 1, 1], [1, 2, 3]), ([1], [1]), ([1], [1]), ([5, 6, 4, 1], [1, 5, 6]), ([4, 7, 7, 1], [1, 4, 7]), ([1, 8], [1, 8]), ([9, 8, 0, 1, 2, 3, 4, 5, 6, 7, 8, 9], [9])])
def conciergelaw20_OrderAddrs.B10 : List Nat := [0, 1, 3, 3, 15, 3, 3, 127, 255, 511, 1023]
theorem conciergelaw20_OrderAddrs.tab10 : rtab .any (opsOf Try.f4 10) = conciergelaw20_OrderAddrs.T10 := by kernel_rfl
theorem conciergelaw20_OrderAddrs.bits10 : waitsOk conciergelaw20_OrderAddrs.T10.2 conciergelaw20_OrderAddrs.B10 = true := by kernel_rfl
set_option maxHeartbeats 8000000 in
set_option maxRecDepth 100000 in
theorem conciergelaw20_OrderAddrs.calls (k : Nat) (A0 : Option Addr) (c0 : Nat) (l0 : List Int) (A1 : Option Addr) (c1 : Nat) (l1 : List ByteArray) (r : Bool) (w : World) (hr0 : Kd.C (Kd.int .u8) w A0 l0.length l0) (hc0 : l0.length ≤ c0) (hr1 : Kd.C Kd.string w A1 l1.length l1) (hc1 : l1.length ≤ c1) (h : conciergelaw20_OrderAddrs.f k l0 l1 = some r) :
  Calls Try.prog 4 #[.slice A0 l0.length c0, .slice A1 l1.length c1] w fun e w' => e = .returned (.bool r) ∧ Below w.heap.size w w' := by
 have hu28 := Try.underlying28
 have HR0 := Aside0.mk hr0
 have HC0 := Aside0.mk hc0
 clear hr0 hc0
 have HR1 := Aside0.mk hr1
 have HC1 := Aside0.mk hc1
 clear hr1 hc1
 have HB := Aside0.mk (Below.refl w.heap.size w)
 have H : ((conciergelaw20_begun.f k).bind fun t452 => (if t452 = true then ((conciergelaw1_Short.f l0 800).bind fun t453 => ((conciergeref15_Select.f k t453).bind fun bt456 => (conciergelaw20_OrderAddrs.l0 k l1 t452 ([] : List ByteArray) 0 bt456.1 bt456.2))) else (some false))) = some r := h
 clear h
 replace H := Option.bind_eq_some_iff.mp H
 obtain ⟨t452, A30, H⟩ := H
 have A3 := Aside0.mk A30
 clear A30
 by_cases c4 : t452 = true
 ·subst c4
  rw [if_pos rfl] at H
  replace H := Option.bind_eq_some_iff.mp H
  obtain ⟨t453, A50, H⟩ := H
  have A5 := Aside0.mk A50
  clear A50
  replace H := Option.bind_eq_some_iff.mp H
  obtain ⟨⟨t456, t459⟩, A60, H⟩ := H
  have A6 := Aside0.mk A60
  clear A60
  have H' := Aside0.mk H
  clear H
  go_enter Try.func4, Try.ntmps4
  go_wp2_with (first | ((with_reducible refine gate_callee (f := 7) rfl ?_); refine goesL_ (some 9) rfl rfl Try.func7 (by kernel_rfl) rfl #[] rfl s2_ ?_; (with_reducible refine (conciergelaw20_begun.calls k  true _ A3.out).mono ?_); rintro e w7 ⟨rfl, hb⟩; refine ⟨_, rfl, ?_⟩; have n0_ := Aside0.mk (below_step (fB0) hb); clear HB; have HB := n0_; clear n0_; (try clear hb); (try clear hb2); (try clear hk); (try clear hi)) | ((with_reducible refine gate_callee (f := 9) rfl ?_); refine goesL_ (some 13) rfl rfl Try.func9 (by kernel_rfl) rfl #[.slice A0 l0.length c0, .int .i64 800] rfl s2_ ?_; (with_reducible refine (conciergelaw1_Short.calls (fun k_ => k_ < w.heap.size) _ _ l0 800 t453 _ ?side1 A5.out).mono ?_); (case side1 => exact Kd.V_mk HC0.out (Kd.F_below (Kd.C_F (Kd.heap_int .u8) HR0.out) (fB0))); rintro e w8 ⟨v454, rfl, ho0, hb⟩; refine ⟨_, rfl, ?_⟩; have n0_ := Aside0.mk (Kd.V_lower (Kd.V_mono (ok' := fun k_ => True) ho0 (fun k_ hk_ => trivial)) (below_size (fB0))); have n1_ := Aside0.mk (below_step (fB0) hb); clear HB; have HO455 := n0_; have HB := n1_; clear n0_ n1_; (try clear hb); (try clear hb2); (try clear hk); (try clear hi); (try clear ho0); obtain ⟨Ao9, co9, eo9⟩ := Kd.V_slice HO455.out; subst eo9) | ((with_reducible refine gate_callee (f := 8) rfl ?_); refine goesL_ (some 14) rfl rfl Try.func8 (by kernel_rfl) rfl #[.slice Ao9 t453.length co9] rfl s2_ ?_; (with_reducible refine (conciergeref15_Select.calls k _ _ t453 t456 t459 _ ?side1 ?side2 A6.out).mono ?_); (case side1 => repeat (first | exact (Kd.V_reads' HO455.out).2.2 | (with_reducible refine Kd.C_alloc ?_ _) | (with_reducible refine Kd.C_drewN ?_ _) | (with_reducible refine Kd.C_drew ?_))); (case side2 => exact (Kd.V_reads' HO455.out).2.1); rintro e w10 ⟨v457, v460, rfl, ho0, ho1, hb⟩; refine ⟨_, rfl, ?_⟩; have n0_ := Aside0.mk (Kd.V_mono (Kd.V_told (Kd.V_told (Kd.V_old (fA3 HO455) hb) (Kd.R_base ho0)) (Kd.R_base ho1)) (fun _ h_ => h_.1)); have n1_ := Aside0.mk (Kd.R_lower ho0 (below_size (fB0))); have n2_ := Aside0.mk (Kd.R_lower ho1 (below_size (fB0))); have n3_ := Aside0.mk (below_step (fB0) hb); clear HO455; clear HB; have HO455 := n0_; have HO458 := n1_; have HO461 := n2_; have HB := n3_; clear n0_ n1_ n2_ n3_; (try clear hb); (try clear hb2); (try clear hk); (try clear hi); (try clear ho0); (try clear ho1)) | ((with_reducible refine gate_dst (N := 6) rfl ?_); refine box_event ?hg (N := 6) ?hd (cs := #[.slice none 0 0, .slice none 0 0]) (t := 28) ?hr ?_; (case hd => rfl); (case hg => rfl); (case hr => first | (go_simp; done) | (go_simp; rfl)); intro gb462 hg w11 hbox hb; have n0_ := Aside0.mk (Kd.V_below (Kd.V_elderB (fA3 HO455) gb462 (Nat.le_of_eq hg.symm)) hb); have n1_ := Aside0.mk (Kd.R_below (fA0 HO458) hb); have n2_ := Aside0.mk (Kd.R_below (fA0 HO461) hb); have n3_ := Aside0.mk (below_step (fB0) hb); have n4_ := Aside0.mk (hbox); have n5_ := Aside0.mk ((by rw [hg]; exact (below_size (fB0)) : w.heap.size ≤ gb462)); have n6_ := Aside0.mk ((by rw [hg]; exact (below_size (fB0)) : w.heap.size ≤ gb462)); clear HO455; clear HO458; clear HO461; clear HB; have HO455 := n0_; have HO458 := n1_; have HO461 := n2_; have HB := n3_; have BK462 := n4_; have GW462 := n5_; have GE462 := n6_; clear n0_ n1_ n2_ n3_ n4_ n5_ n6_; clear hb hbox hg; obtain ⟨Ao12, co12, eo12⟩ := Kd.R_slice HO458.out; subst eo12; have hcz13_0 : w11.cell? ⟨gb462, 0, none⟩ = some (.slice none 0 0) := (blk_cell BK462.out 0).trans rfl; have hcz13_1 : w11.cell? ⟨gb462, 1, none⟩ = some (.slice none 0 0) := (blk_cell BK462.out 1).trans rfl; have hfz13_0 := blk_frozen BK462.out 0; have hfz13_1 := blk_frozen BK462.out 1; obtain ⟨Ao14, co14, eo14⟩ := Kd.R_slice HO461.out; subst eo14))
  go_loopg [7, 8] k (fun kq v7 v8 w' => ∃ (x7_1 : List ByteArray) (x8_1 : Int), v8 = .int .i64 x8_1 ∧ Aside0 (conciergelaw20_OrderAddrs.l0 kq l1 true x7_1 x8_1 t456 t459 = some r) ∧ Aside0 (kq ≤ k) ∧ Aside0 (Kd.R Kd.string 9 w' w.heap.size (fun k_ => some k_ ≠ ((.slice Ao14 t459.length co14) : Value).ownBlock) v7 x7_1) ∧ Aside0 (Kd.R k52 52 w' w.heap.size (fun _ => True) (.slice Ao12 t456.length co12) t456) ∧ Aside0 (Kd.R Kd.string 9 w' w.heap.size (fun k_ => some k_ ≠ (v7 : Value).ownBlock) (.slice Ao14 t459.length co14) t459) ∧ Aside0 (w'.heap[gb462]? = some (.cells #[(.slice Ao12 t456.length co12), (.slice Ao14 t459.length co14)] 28 (0, 0))) ∧ Aside0 (Below w.heap.size w w'))
  case atStart => exact ⟨(([] : List ByteArray)), (0), s1_, H', ⟨Nat.le_refl _⟩, ⟨by first | exact Kd.R_nil _ _ _ _ _ | exact Kd.N_nil _ _ _ _ _ | exact Kd.V_nil _ _ _ _ _ | exact Kd.Q_nil _ _ _ _ _ | exact Kd.S_nil _ _ _ _ _⟩, ⟨by (with_reducible repeat (first | apply Kd.R_alloc | apply Kd.R_drewN | apply Kd.R_drew)); exact Kd.R_mono (Kd.R_far (p := ⟨gb462, 1, none⟩) (Kd.R_far (p := ⟨gb462, 0, none⟩) (Kd.R_types HO458.out BK462.out (by decide)) (fun _ hk => hk.2) (.slice Ao12 t456.length co12)) (fun _ hk => hk.2) (.slice Ao14 t459.length co14)) (fun _ hk => trivial)⟩, ⟨by (with_reducible repeat (first | apply Kd.R_alloc | apply Kd.R_drewN | apply Kd.R_drew)); exact Kd.R_mono (Kd.R_far (p := ⟨gb462, 1, none⟩) (Kd.R_far (p := ⟨gb462, 0, none⟩) (Kd.R_types HO461.out BK462.out (by decide)) (fun _ hk => hk.2) (.slice Ao12 t456.length co12)) (fun _ hk => hk.2) (.slice Ao14 t459.length co14)) (fun _ hk => (by simp [Value.ownBlock]))⟩, ⟨by (with_reducible repeat (first | refine blk_drewN ?_ _ | refine blk_drew ?_ | refine blk_alloc ?_ _)); refine blk_put (cs := #[.slice Ao12 t456.length co12, .slice none 0 0]) ?_ 1 _ rfl; (with_reducible repeat (first | refine blk_drewN ?_ _ | refine blk_drew ?_ | refine blk_alloc ?_ _)); refine blk_put (cs := #[.slice none 0 0, .slice none 0 0]) ?_ 0 _ rfl; (with_reducible repeat (first | refine blk_drewN ?_ _ | refine blk_drew ?_ | refine blk_alloc ?_ _)); exact BK462.out⟩, ⟨(fB1 GE462)⟩⟩
  case round =>
   clear H'
   try clear c1
   try clear p2
   try clear c4
   try clear c7
   try clear c8
   try clear c9
   try clear hcz13_0
   try clear hcz13_1
   try clear hfz13_0
   try clear hfz13_1
   obtain ⟨x7_1, x8_1, rfl, HA, HK1, HO_7, HO_463000, HO_463001, BK462, HB⟩ := hrel
   cases gk with
   | zero => exact absurd HA.out (by simp [conciergelaw20_OrderAddrs.l0])
   | succ k1 =>
    have H := HA.out
    clear HA
    simp only [conciergelaw20_OrderAddrs.l0] at H
    by_cases c15 : x8_1 < (l1.length : Int)
    ·rw [if_pos c15] at H
     have c15b0 : decide (x8_1 < (l1.length : Int)) = true := decide_eq_true c15
     clear c15
     by_cases c16 : x8_1 < 20
     ·rw [if_pos c16] at H
      have c16b0 : decide (x8_1 < 20) = true := decide_eq_true c16
      clear c16
      by_cases c17 : 0 ≤ x8_1
      ·rw [if_pos c17] at H
       have c17b0 : decide (0 ≤ x8_1) = true := decide_eq_true c17
       clear c17
       replace H := Option.bind_eq_some_iff.mp H
       obtain ⟨t464, A180, H⟩ := H
       have A18 := Aside0.mk A180
       clear A180
       by_cases c19 : x7_1.length < 8796093022208
       ·rw [if_pos c19] at H
        have LMc19 := Aside0.mk c19
        clear c19
        obtain ⟨y465, hy465⟩ : ∃ y_ : List ByteArray, y_ = (x7_1 ++ [t464]) := ⟨_, rfl⟩
        replace H : (conciergelaw20_OrderAddrs.l0 k1 l1 true y465 (wrap64 (x8_1 + 1)) t456 t459) = some r := by first | (rw [hy465]; with_reducible exact H) | (have H2_ := (Option.bind_some _ _).symm.trans H; rw [hy465]; with_reducible exact H2_) | (have H2_ := (Option.bind_some _ _).symm.trans H; with_reducible exact H2_) | with_reducible exact H | (rw [hy465]; exact H) | exact H
        have Ny465 := Aside0.mk hy465
        clear hy465
        have H' := Aside0.mk H
        clear H
        have p463 : 0 ≤ (x8_1 : Int) := of_decide_eq_true (by first | (with_reducible assumption) | assumption)
        have q463 : x8_1 < (l1.length : Int) := of_decide_eq_true (by first | (with_reducible assumption) | assumption)
        obtain ⟨ad463, e463, hx463_0⟩ := Kd.at_string HR1.out x8_1 p463 q463
        cases e463
        replace hx463_0 := (HB.out.cell (World.block_lt_of_cell? w _ hx463_0)).trans hx463_0
        replace p463 := eq_true p463
        replace q463 := eq_true q463
        go_wp2_with (first | ((with_reducible refine gate_callee (f := 15) rfl ?_); refine goesL_ (some 30) rfl rfl Try.func15 (by kernel_rfl) rfl #[.string (rdOf ByteArray.empty l1 x8_1), .int .i64 20] rfl s2_ ?_; (with_reducible refine (conciergelaw2_Cut.calls (rdOf ByteArray.empty l1 x8_1) 20 t464 _ A18.out).mono ?_); rintro e w' ⟨rfl, ⟨nd, rfl⟩⟩; refine ⟨_, rfl, ?_⟩) | ((with_reducible refine gate_builtin (b := .append) (xs := #[.tmp 25, .tmp 31]) rfl ?_); at_builtin; refine Kd.R_append Kd.string (w0 := w) w.heap.size rfl (.tmp 25) (.tmp 31) 26 9 (.string ⟨#[]⟩) 16 rfl Try.underlying26 info9 rfl (by decide) (by omega) u7 x7_1 t464 [.string t464] (fun k_ => some k_ ≠ (.slice Ao14 t459.length co14 : Value).ownBlock) (fun _ => False) rfl rfl ?aP (fun _ hk => hk.elim) ?aF ?aO ?aB ?aS ?aL ?_; (case aP => exact rfl); (case aB => exact (fB1 GE462)); (case aF => exact (fun k_ hk => Kd.fresh' (Kd.R_lt (fA0 HO_463001)) k_ hk)); (case aO => exact (fA0 HO_7)); (case aS => exact (below_size (fB1 GE462))); (case aL => have := LMc19.out; omega); intro v466 w20 ho hb hg hat; rw [← Ny465.out] at ho; have n0_ := Aside0.mk (Kd.R_over' (fA0 HO_463000) (Kd.R_typed (fA0 HO_7)) (by decide) hg); have n1_ := Aside0.mk (Kd.R_after (ok := (fun _ => True)) (by (with_reducible repeat (first | apply Kd.R_alloc | apply Kd.R_drewN | apply Kd.R_drew)); exact Kd.R_mono HO_463001.out (fun _ hk => ⟨trivial, hk⟩)) hg hat); have n2_ := Aside0.mk (blk_grown (g := gb462) (o := .cells #[.slice Ao12 t456.length co12, .slice Ao14 t459.length co14] 28 (0, 0)) (fA1 BK462) hg (Kd.R_ne HO_7.out BK462.out (by decide))); have n3_ := Aside0.mk (hb); have n4_ := Aside0.mk (ho); clear HO_463000; clear HO_463001; clear BK462; clear HB; clear HO_7; have HO_463000 := n0_; have HO_463001 := n1_; have BK462 := n2_; have HB := n3_; have HO467 := n4_; clear n0_ n1_ n2_ n3_ n4_; clear ho hb hg hat))
        go_roundg k1
        case measure => have := HK1.out; omega
        case rel => exact ⟨(y465), (wrap64 (x8_1 + 1)), s1_, H', ⟨by have := HK1.out; omega⟩, ⟨(fA0 HO467)⟩, ⟨(fA0 HO_463000)⟩, ⟨by (with_reducible repeat (first | apply Kd.R_alloc | apply Kd.R_drewN | apply Kd.R_drew)); exact Kd.R_mono HO_463001.out (fun _ hk => hk.2)⟩, ⟨(fA1 BK462)⟩, ⟨(fB1 GE462)⟩⟩
       ·rw [if_neg c19] at H
        exact absurd H (by simp)
      ·rw [if_neg c17] at H
       exact absurd H (by simp)
     ·rw [if_neg c16] at H
      have c16b0 : decide (x8_1 < 20) = false := decide_eq_false c16
      clear c16
      by_cases c21 : true = true
      ·skip
       have H1 : ((order_Addrs.f k1 t456 t459 x7_1).bind fun t468 => ((conciergeref15_Addrs.f k1 t456 t459 x7_1).bind fun t471 => ((conciergeref5_EqTexts.f k1 t468 t471).bind fun t474 => (some t474)))) = some r := by first | (rw [if_pos rfl] at H; exact H) | (rw [if_pos trivial] at H; exact H)
       clear H
       have H := H1
       clear H1
       replace H := Option.bind_eq_some_iff.mp H
       obtain ⟨t468, A220, H⟩ := H
       have A22 := Aside0.mk A220
       clear A220
       replace H := Option.bind_eq_some_iff.mp H
       obtain ⟨t471, A230, H⟩ := H
       have A23 := Aside0.mk A230
       clear A230
       replace H := Option.bind_eq_some_iff.mp H
       obtain ⟨t474, A240, H⟩ := H
       have A24 := Aside0.mk A240
       clear A240
       obtain rfl := Option.some.inj H
       try go_wp2
       have n0_ := Aside0.mk (Kd.R_drew HO_7.out)
       have n1_ := Aside0.mk (Kd.R_drew HO_463000.out)
       have n2_ := Aside0.mk (Kd.R_drew HO_463001.out)
       have n3_ := Aside0.mk (blk_drew BK462.out)
       have n4_ := Aside0.mk (below_drew1 HB.out)
       clear HO_7
       clear HO_463000
       clear HO_463001
       clear BK462
       clear HB
       have HO_7 := n0_
       have HO_463000 := n1_
       have HO_463001 := n2_
       have BK462 := n3_
       have HB := n4_
       clear n0_ n1_ n2_ n3_ n4_
       obtain ⟨Ao26, co26, eo26⟩ := Kd.R_slice HO_7.out
       (first | subst eo26 | (injection eo26 with f1_ f2_ f3_; have f4_ := f1_.symm; have f5_ := f3_.symm; clear f1_ f2_ f3_; subst f4_; subst f5_))
       refine start_ (n := 11) (S := fun w' => w'.cell? ⟨gb462, 0, none⟩ = some (.slice Ao12 t456.length co12) ∧ w'.cell? ⟨gb462, 1, none⟩ = some (.slice Ao14 t459.length co14)) (ds := []) #[false, false, false, false, false, false, false, false, false, false, false] (by kernel_rfl) rfl rfl ⟨(blk_cell BK462.out 0).trans rfl, (blk_cell BK462.out 1).trans rfl⟩ (fun hHeld => ?_); refine with_tabW conciergelaw20_OrderAddrs.tab10 conciergelaw20_OrderAddrs.bits10 (fun HT_ HW_ => ?_)
       generalize wr.drew = w25 at HO_7 HO_463000 HO_463001 BK462 HB hHeld ⊢
       refine pure_ (i := 0) (N := some 33) (v := ?_) (a' := ?_) #[true, false, false, false, false, false, false, false, false, false, false] rfl rfl (any_of HT_.out (by kernel_rfl)) (fun _ _ _ h => h) (Or.inl ⟨by rfl, ?_⟩) ?_ ?_
       rotate_left
       ·intro w'
        go_simp
        with_reducible rfl
       rotate_left
       ·simp only [Act.put, List.setIfInBounds_toArray, List.set_cons_zero, List.set_cons_succ, i64_w, i32_w]
        rfl
       refine pure_ (i := 1) (N := some 34) (v := ?_) (a' := ?_) #[true, true, false, false, false, false, false, false, false, false, false] rfl rfl (any_of HT_.out (by kernel_rfl)) (fun _ _ _ h => h) (Or.inl ⟨by rfl, ?_⟩) ?_ ?_
       rotate_left
       ·intro w'
        go_simp
        with_reducible rfl
       rotate_left
       ·simp only [Act.put, List.setIfInBounds_toArray, List.set_cons_zero, List.set_cons_succ, i64_w, i32_w]
        rfl
       refine pure_ (i := 3) (N := some 36) (v := ?_) (a' := ?_) #[true, true, false, true, false, false, false, false, false, false, false] rfl rfl (any_of HT_.out (by kernel_rfl)) (fun _ _ _ h => h) (Or.inl ⟨by rfl, ?_⟩) ?_ ?_
       rotate_left
       ·intro w'
        go_simp
        with_reducible rfl
       rotate_left
       ·simp only [Act.put, List.setIfInBounds_toArray, List.set_cons_zero, List.set_cons_succ, i64_w, i32_w]
        rfl
       refine pure_ (i := 6) (N := some 39) (v := ?_) (a' := ?_) #[true, true, false, true, false, false, true, false, false, false, false] rfl rfl (any_of HT_.out (by kernel_rfl)) (fun _ _ _ h => h) (Or.inl ⟨by rfl, ?_⟩) ?_ ?_
       rotate_left
       ·intro w'
        go_simp
        with_reducible rfl
       rotate_left
       ·simp only [Act.put, List.setIfInBounds_toArray, List.set_cons_zero, List.set_cons_succ, i64_w, i32_w]
        rfl
       refine take_ (i := 2) (N := some 35) (v := ?_) (a' := ?_) #[true, true, true, true, false, false, true, false, false, false, false] rfl rfl (take_ofW HT_.out HW_.out (by kernel_rfl)) (fun _ _ _ h => h) (Or.inl ⟨by rfl, ?_⟩) hHeld ?_ ?_
       rotate_left
       ·rintro w' ⟨s0, s1⟩
        go_simp
        with_reducible rfl
       rotate_left
       ·simp only [Act.put, List.setIfInBounds_toArray, List.set_cons_zero, List.set_cons_succ, i64_w, i32_w]
        rfl
       refine take_ (i := 5) (N := some 38) (v := ?_) (a' := ?_) #[true, true, true, true, false, true, true, false, false, false, false] rfl rfl (take_ofW HT_.out HW_.out (by kernel_rfl)) (fun _ _ _ h => h) (Or.inl ⟨by rfl, ?_⟩) hHeld ?_ ?_
       rotate_left
       ·rintro w' ⟨s0, s1⟩
        go_simp
        with_reducible rfl
       rotate_left
       ·simp only [Act.put, List.setIfInBounds_toArray, List.set_cons_zero, List.set_cons_succ, i64_w, i32_w]
        rfl
       refine one_ (i := 4) (N := some 37) #[true, true, true, true, true, true, true, false, false, false, false] rfl rfl (one_of HT_.out (by kernel_rfl)) (by decide) (fun K hK => ?_)
       refine goes_ Try.func17 (by kernel_rfl) rfl #[.agg #[.slice Ao12 t456.length co12, .slice Ao14 t459.length co14], .slice Ao26 x7_1.length co26] (by rfl) rfl rfl s2_ ?_
       with_reducible refine (order_Addrs.calls k1 _ _ t456 _ _ t459 _ _ x7_1 t468 _ ?side1 ?side2 ?side3 ?side4 ?side5 ?side6 A22.out).mono ?_
       (case side1 => repeat (first | exact (Kd.R_reads' HO_463000.out).2.2 | (with_reducible refine Kd.C_alloc ?_ _) | (with_reducible refine Kd.C_drewN ?_ _) | (with_reducible refine Kd.C_drew ?_)))
       (case side2 => exact (Kd.R_reads' HO_463000.out).2.1)
       (case side3 => repeat (first | exact (Kd.R_reads' HO_463001.out).2.2 | (with_reducible refine Kd.C_alloc ?_ _) | (with_reducible refine Kd.C_drewN ?_ _) | (with_reducible refine Kd.C_drew ?_)))
       (case side4 => exact (Kd.R_reads' HO_463001.out).2.1)
       (case side5 => repeat (first | exact (Kd.R_reads' HO_7.out).2.2 | (with_reducible refine Kd.C_alloc ?_ _) | (with_reducible refine Kd.C_drewN ?_ _) | (with_reducible refine Kd.C_drew ?_)))
       (case side6 => exact (Kd.R_reads' HO_7.out).2.1)
       rintro e w27 ⟨v469, rfl, ho0, hb⟩
       refine ⟨_, rfl, ?_⟩
       have n0_ := Aside0.mk (Kd.R_elder' (fA0 HO_7) (Kd.R_base ho0) hb)
       have n1_ := Aside0.mk (Kd.R_below (fA0 HO_463000) hb)
       have n2_ := Aside0.mk (Kd.R_elder' (fA0 HO_463001) (Kd.R_base ho0) hb)
       have n3_ := Aside0.mk (Kd.R_lower (Kd.R_new' (Kd.R_new' ho0 (Kd.R_lt (fA0 HO_7))) (Kd.R_lt (fA0 HO_463001))) (below_size (fB1 GE462)))
       have n4_ := Aside0.mk (blk_below (g := gb462) (o := .cells #[.slice Ao12 t456.length co12, .slice Ao14 t459.length co14] 28 (0, 0)) (fA1 BK462) hb)
       have n5_ := Aside0.mk (below_step (fB1 GE462) hb)
       clear HO_7
       clear HO_463000
       clear HO_463001
       clear BK462
       clear HB
       have HO_7 := n0_
       have HO_463000 := n1_
       have HO_463001 := n2_
       have HO470 := n3_
       have BK462 := n4_
       have HB := n5_
       clear n0_ n1_ n2_ n3_ n4_ n5_
       (try clear hb)
       (try clear hb2)
       (try clear hk)
       (try clear hi)
       (try clear ho0)
       refine hK.out _ _ ⟨(blk_cell BK462.out 0).trans rfl, (blk_cell BK462.out 1).trans rfl⟩ (fun hHeld => ?_)
       clear hK K
       refine norm_ (a' := ?_) ?_ ?_
       rotate_left
       ·show Act.put _ (some 37) _ = _
        simp only [Act.put, List.setIfInBounds_toArray, List.set_cons_zero, List.set_cons_succ, i64_w, i32_w]
        rfl
       refine one_ (i := 7) (N := some 40) #[true, true, true, true, true, true, true, true, false, false, false] rfl rfl (one_of HT_.out (by kernel_rfl)) (by decide) (fun K hK => ?_)
       refine goes_ Try.func18 (by kernel_rfl) rfl #[.agg #[.slice Ao12 t456.length co12, .slice Ao14 t459.length co14], .slice Ao26 x7_1.length co26] (by rfl) rfl rfl s2_ ?_
       with_reducible refine (conciergeref15_Addrs.calls k1 _ _ t456 _ _ t459 _ _ x7_1 t471 _ ?side1 ?side2 ?side3 ?side4 ?side5 ?side6 A23.out).mono ?_
       (case side1 => repeat (first | exact (Kd.R_reads' HO_463000.out).2.2 | (with_reducible refine Kd.C_alloc ?_ _) | (with_reducible refine Kd.C_drewN ?_ _) | (with_reducible refine Kd.C_drew ?_)))
       (case side2 => exact (Kd.R_reads' HO_463000.out).2.1)
       (case side3 => repeat (first | exact (Kd.R_reads' HO_463001.out).2.2 | (with_reducible refine Kd.C_alloc ?_ _) | (with_reducible refine Kd.C_drewN ?_ _) | (with_reducible refine Kd.C_drew ?_)))
       (case side4 => exact (Kd.R_reads' HO_463001.out).2.1)
       (case side5 => repeat (first | exact (Kd.R_reads' HO_7.out).2.2 | (with_reducible refine Kd.C_alloc ?_ _) | (with_reducible refine Kd.C_drewN ?_ _) | (with_reducible refine Kd.C_drew ?_)))
       (case side6 => exact (Kd.R_reads' HO_7.out).2.1)
       rintro e w28 ⟨v472, rfl, ho0, hb⟩
       refine ⟨_, rfl, ?_⟩
       have n0_ := Aside0.mk (Kd.R_elder' (fA0 HO_7) (Kd.R_base ho0) hb)
       have n1_ := Aside0.mk (Kd.R_below (fA0 HO_463000) hb)
       have n2_ := Aside0.mk (Kd.R_elder' (fA0 HO_463001) (Kd.R_base ho0) hb)
       have n3_ := Aside0.mk (Kd.R_elder' (fA0 HO470) (Kd.R_base ho0) hb)
       have n4_ := Aside0.mk (Kd.R_lower (Kd.R_new' (Kd.R_new' (Kd.R_new' ho0 (Kd.R_lt (fA0 HO_7))) (Kd.R_lt (fA0 HO_463001))) (Kd.R_lt (fA0 HO470))) (below_size (fB1 GE462)))
       have n5_ := Aside0.mk (blk_below (g := gb462) (o := .cells #[.slice Ao12 t456.length co12, .slice Ao14 t459.length co14] 28 (0, 0)) (fA1 BK462) hb)
       have n6_ := Aside0.mk (below_step (fB1 GE462) hb)
       clear HO_7
       clear HO_463000
       clear HO_463001
       clear HO470
       clear BK462
       clear HB
       have HO_7 := n0_
       have HO_463000 := n1_
       have HO_463001 := n2_
       have HO470 := n3_
       have HO473 := n4_
       have BK462 := n5_
       have HB := n6_
       clear n0_ n1_ n2_ n3_ n4_ n5_ n6_
       (try clear hb)
       (try clear hb2)
       (try clear hk)
       (try clear hi)
       (try clear ho0)
       obtain ⟨Ao29, co29, eo29⟩ := Kd.R_slice HO470.out
       (first | subst eo29 | (injection eo29 with f1_ f2_ f3_; have f4_ := f1_.symm; have f5_ := f3_.symm; clear f1_ f2_ f3_; subst f4_; subst f5_))
       obtain ⟨Ao30, co30, eo30⟩ := Kd.R_slice HO473.out
       (first | subst eo30 | (injection eo30 with f1_ f2_ f3_; have f4_ := f1_.symm; have f5_ := f3_.symm; clear f1_ f2_ f3_; subst f4_; subst f5_))
       refine hK.out _ _ ⟨(blk_cell BK462.out 0).trans rfl, (blk_cell BK462.out 1).trans rfl⟩ (fun hHeld => ?_)
       clear hK K
       refine norm_ (a' := ?_) ?_ ?_
       rotate_left
       ·show Act.put _ (some 40) _ = _
        simp only [Act.put, List.setIfInBounds_toArray, List.set_cons_zero, List.set_cons_succ, i64_w, i32_w]
        rfl
       refine one_ (i := 8) (N := some 41) #[true, true, true, true, true, true, true, true, true, false, false] rfl rfl (one_of HT_.out (by kernel_rfl)) (by decide) (fun K hK => ?_)
       refine goes_ Try.func16 (by kernel_rfl) rfl #[.slice Ao29 t468.length co29, .slice Ao30 t471.length co30] (by rfl) rfl rfl s2_ ?_
       with_reducible refine (conciergeref5_EqTexts.calls k1 _ _ t468 _ _ t471 t474 _ ?side1 ?side2 ?side3 ?side4 A24.out).mono ?_
       (case side1 => repeat (first | exact (Kd.R_reads' HO470.out).2.2 | (with_reducible refine Kd.C_alloc ?_ _) | (with_reducible refine Kd.C_drewN ?_ _) | (with_reducible refine Kd.C_drew ?_)))
       (case side2 => exact (Kd.R_reads' HO470.out).2.1)
       (case side3 => repeat (first | exact (Kd.R_reads' HO473.out).2.2 | (with_reducible refine Kd.C_alloc ?_ _) | (with_reducible refine Kd.C_drewN ?_ _) | (with_reducible refine Kd.C_drew ?_)))
       (case side4 => exact (Kd.R_reads' HO473.out).2.1)
       rintro e w' ⟨rfl, ⟨nd, rfl⟩⟩
       refine ⟨_, rfl, ?_⟩
       refine hK.out _ _ ⟨(blk_cell BK462.out 0).trans rfl, (blk_cell BK462.out 1).trans rfl⟩ (fun hHeld => ?_)
       clear hK K
       refine norm_ (a' := ?_) ?_ ?_
       rotate_left
       ·show Act.put _ (some 41) _ = _
        simp only [Act.put, List.setIfInBounds_toArray, List.set_cons_zero, List.set_cons_succ, i64_w, i32_w]
        rfl
       refine pure_ (i := 9) (N := some 42) (v := ?_) (a' := ?_) #[true, true, true, true, true, true, true, true, true, true, false] rfl rfl (any_of HT_.out (by kernel_rfl)) (fun _ _ _ h => h) (Or.inl ⟨by rfl, ?_⟩) ?_ ?_
       rotate_left
       ·intro w'
        go_simp
        with_reducible rfl
       rotate_left
       ·simp only [Act.put, List.setIfInBounds_toArray, List.set_cons_zero, List.set_cons_succ, i64_w, i32_w]
        rfl
       refine pure_ (i := 10) (N := some 4) (v := ?_) (a' := ?_) #[true, true, true, true, true, true, true, true, true, true, true] rfl rfl (any_of HT_.out (by kernel_rfl)) (fun _ _ _ h => h) (Or.inl ⟨by rfl, ?_⟩) ?_ ?_
       rotate_left
       ·intro w'
        go_simp
        with_reducible rfl
       rotate_left
       ·simp only [Act.put, List.setIfInBounds_toArray, List.set_cons_zero, List.set_cons_succ, i64_w, i32_w]
        rfl
       refine done_ (done_of HT_.out (by kernel_rfl)) ?_
       try go_wp2
       go_ret
       exact ⟨by first | rfl | (simp [errW_none, errW_some] <;> rfl) | (simp [*, errW_none, errW_some] <;> rfl), (fB1 GE462)⟩
      ·exact absurd rfl c21
    ·rw [if_neg c15] at H
     have c15b0 : decide (x8_1 < (l1.length : Int)) = false := decide_eq_false c15
     clear c15
     by_cases c32 : true = true
     ·skip
      have H1 : ((order_Addrs.f k1 t456 t459 x7_1).bind fun t475 => ((conciergeref15_Addrs.f k1 t456 t459 x7_1).bind fun t478 => ((conciergeref5_EqTexts.f k1 t475 t478).bind fun t481 => (some t481)))) = some r := by first | (rw [if_pos rfl] at H; exact H) | (rw [if_pos trivial] at H; exact H)
      clear H
      have H := H1
      clear H1
      replace H := Option.bind_eq_some_iff.mp H
      obtain ⟨t475, A330, H⟩ := H
      have A33 := Aside0.mk A330
      clear A330
      replace H := Option.bind_eq_some_iff.mp H
      obtain ⟨t478, A340, H⟩ := H
      have A34 := Aside0.mk A340
      clear A340
      replace H := Option.bind_eq_some_iff.mp H
      obtain ⟨t481, A350, H⟩ := H
      have A35 := Aside0.mk A350
      clear A350
      obtain rfl := Option.some.inj H
      try go_wp2
      have n0_ := Aside0.mk (Kd.R_drew HO_7.out)
      have n1_ := Aside0.mk (Kd.R_drew HO_463000.out)
      have n2_ := Aside0.mk (Kd.R_drew HO_463001.out)
      have n3_ := Aside0.mk (blk_drew BK462.out)
      have n4_ := Aside0.mk (below_drew1 HB.out)
      clear HO_7
      clear HO_463000
      clear HO_463001
      clear BK462
      clear HB
      have HO_7 := n0_
      have HO_463000 := n1_
      have HO_463001 := n2_
      have BK462 := n3_
      have HB := n4_
      clear n0_ n1_ n2_ n3_ n4_
      obtain ⟨Ao37, co37, eo37⟩ := Kd.R_slice HO_7.out
      (first | subst eo37 | (injection eo37 with f1_ f2_ f3_; have f4_ := f1_.symm; have f5_ := f3_.symm; clear f1_ f2_ f3_; subst f4_; subst f5_))
      refine start_ (n := 11) (S := fun w' => w'.cell? ⟨gb462, 0, none⟩ = some (.slice Ao12 t456.length co12) ∧ w'.cell? ⟨gb462, 1, none⟩ = some (.slice Ao14 t459.length co14)) (ds := []) #[false, false, false, false, false, false, false, false, false, false, false] (by kernel_rfl) rfl rfl ⟨(blk_cell BK462.out 0).trans rfl, (blk_cell BK462.out 1).trans rfl⟩ (fun hHeld => ?_); refine with_tabW conciergelaw20_OrderAddrs.tab10 conciergelaw20_OrderAddrs.bits10 (fun HT_ HW_ => ?_)
      generalize wr.drew = w36 at HO_7 HO_463000 HO_463001 BK462 HB hHeld ⊢
      refine pure_ (i := 0) (N := some 33) (v := ?_) (a' := ?_) #[true, false, false, false, false, false, false, false, false, false, false] rfl rfl (any_of HT_.out (by kernel_rfl)) (fun _ _ _ h => h) (Or.inl ⟨by rfl, ?_⟩) ?_ ?_
      rotate_left
      ·intro w'
       go_simp
       with_reducible rfl
      rotate_left
      ·simp only [Act.put, List.setIfInBounds_toArray, List.set_cons_zero, List.set_cons_succ, i64_w, i32_w]
       rfl
      refine pure_ (i := 1) (N := some 34) (v := ?_) (a' := ?_) #[true, true, false, false, false, false, false, false, false, false, false] rfl rfl (any_of HT_.out (by kernel_rfl)) (fun _ _ _ h => h) (Or.inl ⟨by rfl, ?_⟩) ?_ ?_
      rotate_left
      ·intro w'
       go_simp
       with_reducible rfl
      rotate_left
      ·simp only [Act.put, List.setIfInBounds_toArray, List.set_cons_zero, List.set_cons_succ, i64_w, i32_w]
       rfl
      refine pure_ (i := 3) (N := some 36) (v := ?_) (a' := ?_) #[true, true, false, true, false, false, false, false, false, false, false] rfl rfl (any_of HT_.out (by kernel_rfl)) (fun _ _ _ h => h) (Or.inl ⟨by rfl, ?_⟩) ?_ ?_
      rotate_left
      ·intro w'
       go_simp
       with_reducible rfl
      rotate_left
      ·simp only [Act.put, List.setIfInBounds_toArray, List.set_cons_zero, List.set_cons_succ, i64_w, i32_w]
       rfl
      refine pure_ (i := 6) (N := some 39) (v := ?_) (a' := ?_) #[true, true, false, true, false, false, true, false, false, false, false] rfl rfl (any_of HT_.out (by kernel_rfl)) (fun _ _ _ h => h) (Or.inl ⟨by rfl, ?_⟩) ?_ ?_
      rotate_left
      ·intro w'
       go_simp
       with_reducible rfl
      rotate_left
      ·simp only [Act.put, List.setIfInBounds_toArray, List.set_cons_zero, List.set_cons_succ, i64_w, i32_w]
       rfl
      refine take_ (i := 2) (N := some 35) (v := ?_) (a' := ?_) #[true, true, true, true, false, false, true, false, false, false, false] rfl rfl (take_ofW HT_.out HW_.out (by kernel_rfl)) (fun _ _ _ h => h) (Or.inl ⟨by rfl, ?_⟩) hHeld ?_ ?_
      rotate_left
      ·rintro w' ⟨s0, s1⟩
       go_simp
       with_reducible rfl
      rotate_left
      ·simp only [Act.put, List.setIfInBounds_toArray, List.set_cons_zero, List.set_cons_succ, i64_w, i32_w]
       rfl
      refine take_ (i := 5) (N := some 38) (v := ?_) (a' := ?_) #[true, true, true, true, false, true, true, false, false, false, false] rfl rfl (take_ofW HT_.out HW_.out (by kernel_rfl)) (fun _ _ _ h => h) (Or.inl ⟨by rfl, ?_⟩) hHeld ?_ ?_
      rotate_left
      ·rintro w' ⟨s0, s1⟩
       go_simp
       with_reducible rfl
      rotate_left
      ·simp only [Act.put, List.setIfInBounds_toArray, List.set_cons_zero, List.set_cons_succ, i64_w, i32_w]
       rfl
      refine one_ (i := 4) (N := some 37) #[true, true, true, true, true, true, true, false, false, false, false] rfl rfl (one_of HT_.out (by kernel_rfl)) (by decide) (fun K hK => ?_)
      refine goes_ Try.func17 (by kernel_rfl) rfl #[.agg #[.slice Ao12 t456.length co12, .slice Ao14 t459.length co14], .slice Ao37 x7_1.length co37] (by rfl) rfl rfl s2_ ?_
      with_reducible refine (order_Addrs.calls k1 _ _ t456 _ _ t459 _ _ x7_1 t475 _ ?side1 ?side2 ?side3 ?side4 ?side5 ?side6 A33.out).mono ?_
      (case side1 => repeat (first | exact (Kd.R_reads' HO_463000.out).2.2 | (with_reducible refine Kd.C_alloc ?_ _) | (with_reducible refine Kd.C_drewN ?_ _) | (with_reducible refine Kd.C_drew ?_)))
      (case side2 => exact (Kd.R_reads' HO_463000.out).2.1)
      (case side3 => repeat (first | exact (Kd.R_reads' HO_463001.out).2.2 | (with_reducible refine Kd.C_alloc ?_ _) | (with_reducible refine Kd.C_drewN ?_ _) | (with_reducible refine Kd.C_drew ?_)))
      (case side4 => exact (Kd.R_reads' HO_463001.out).2.1)
      (case side5 => repeat (first | exact (Kd.R_reads' HO_7.out).2.2 | (with_reducible refine Kd.C_alloc ?_ _) | (with_reducible refine Kd.C_drewN ?_ _) | (with_reducible refine Kd.C_drew ?_)))
      (case side6 => exact (Kd.R_reads' HO_7.out).2.1)
      rintro e w38 ⟨v476, rfl, ho0, hb⟩
      refine ⟨_, rfl, ?_⟩
      have n0_ := Aside0.mk (Kd.R_elder' (fA0 HO_7) (Kd.R_base ho0) hb)
      have n1_ := Aside0.mk (Kd.R_below (fA0 HO_463000) hb)
      have n2_ := Aside0.mk (Kd.R_elder' (fA0 HO_463001) (Kd.R_base ho0) hb)
      have n3_ := Aside0.mk (Kd.R_lower (Kd.R_new' (Kd.R_new' ho0 (Kd.R_lt (fA0 HO_7))) (Kd.R_lt (fA0 HO_463001))) (below_size (fB1 GE462)))
      have n4_ := Aside0.mk (blk_below (g := gb462) (o := .cells #[.slice Ao12 t456.length co12, .slice Ao14 t459.length co14] 28 (0, 0)) (fA1 BK462) hb)
      have n5_ := Aside0.mk (below_step (fB1 GE462) hb)
      clear HO_7
      clear HO_463000
      clear HO_463001
      clear BK462
      clear HB
      have HO_7 := n0_
      have HO_463000 := n1_
      have HO_463001 := n2_
      have HO477 := n3_
      have BK462 := n4_
      have HB := n5_
      clear n0_ n1_ n2_ n3_ n4_ n5_
      (try clear hb)
      (try clear hb2)
      (try clear hk)
      (try clear hi)
      (try clear ho0)
      refine hK.out _ _ ⟨(blk_cell BK462.out 0).trans rfl, (blk_cell BK462.out 1).trans rfl⟩ (fun hHeld => ?_)
      clear hK K
      refine norm_ (a' := ?_) ?_ ?_
      rotate_left
      ·show Act.put _ (some 37) _ = _
       simp only [Act.put, List.setIfInBounds_toArray, List.set_cons_zero, List.set_cons_succ, i64_w, i32_w]
       rfl
      refine one_ (i := 7) (N := some 40) #[true, true, true, true, true, true, true, true, false, false, false] rfl rfl (one_of HT_.out (by kernel_rfl)) (by decide) (fun K hK => ?_)
      refine goes_ Try.func18 (by kernel_rfl) rfl #[.agg #[.slice Ao12 t456.length co12, .slice Ao14 t459.length co14], .slice Ao37 x7_1.length co37] (by rfl) rfl rfl s2_ ?_
      with_reducible refine (conciergeref15_Addrs.calls k1 _ _ t456 _ _ t459 _ _ x7_1 t478 _ ?side1 ?side2 ?side3 ?side4 ?side5 ?side6 A34.out).mono ?_
      (case side1 => repeat (first | exact (Kd.R_reads' HO_463000.out).2.2 | (with_reducible refine Kd.C_alloc ?_ _) | (with_reducible refine Kd.C_drewN ?_ _) | (with_reducible refine Kd.C_drew ?_)))
      (case side2 => exact (Kd.R_reads' HO_463000.out).2.1)
      (case side3 => repeat (first | exact (Kd.R_reads' HO_463001.out).2.2 | (with_reducible refine Kd.C_alloc ?_ _) | (with_reducible refine Kd.C_drewN ?_ _) | (with_reducible refine Kd.C_drew ?_)))
      (case side4 => exact (Kd.R_reads' HO_463001.out).2.1)
      (case side5 => repeat (first | exact (Kd.R_reads' HO_7.out).2.2 | (with_reducible refine Kd.C_alloc ?_ _) | (with_reducible refine Kd.C_drewN ?_ _) | (with_reducible refine Kd.C_drew ?_)))
      (case side6 => exact (Kd.R_reads' HO_7.out).2.1)
      rintro e w39 ⟨v479, rfl, ho0, hb⟩
      refine ⟨_, rfl, ?_⟩
      have n0_ := Aside0.mk (Kd.R_elder' (fA0 HO_7) (Kd.R_base ho0) hb)
      have n1_ := Aside0.mk (Kd.R_below (fA0 HO_463000) hb)
      have n2_ := Aside0.mk (Kd.R_elder' (fA0 HO_463001) (Kd.R_base ho0) hb)
      have n3_ := Aside0.mk (Kd.R_elder' (fA0 HO477) (Kd.R_base ho0) hb)
      have n4_ := Aside0.mk (Kd.R_lower (Kd.R_new' (Kd.R_new' (Kd.R_new' ho0 (Kd.R_lt (fA0 HO_7))) (Kd.R_lt (fA0 HO_463001))) (Kd.R_lt (fA0 HO477))) (below_size (fB1 GE462)))
      have n5_ := Aside0.mk (blk_below (g := gb462) (o := .cells #[.slice Ao12 t456.length co12, .slice Ao14 t459.length co14] 28 (0, 0)) (fA1 BK462) hb)
      have n6_ := Aside0.mk (below_step (fB1 GE462) hb)
      clear HO_7
      clear HO_463000
      clear HO_463001
      clear HO477
      clear BK462
      clear HB
      have HO_7 := n0_
      have HO_463000 := n1_
      have HO_463001 := n2_
      have HO477 := n3_
      have HO480 := n4_
      have BK462 := n5_
      have HB := n6_
      clear n0_ n1_ n2_ n3_ n4_ n5_ n6_
      (try clear hb)
      (try clear hb2)
      (try clear hk)
      (try clear hi)
      (try clear ho0)
      obtain ⟨Ao40, co40, eo40⟩ := Kd.R_slice HO477.out
      (first | subst eo40 | (injection eo40 with f1_ f2_ f3_; have f4_ := f1_.symm; have f5_ := f3_.symm; clear f1_ f2_ f3_; subst f4_; subst f5_))
      obtain ⟨Ao41, co41, eo41⟩ := Kd.R_slice HO480.out
      (first | subst eo41 | (injection eo41 with f1_ f2_ f3_; have f4_ := f1_.symm; have f5_ := f3_.symm; clear f1_ f2_ f3_; subst f4_; subst f5_))
      refine hK.out _ _ ⟨(blk_cell BK462.out 0).trans rfl, (blk_cell BK462.out 1).trans rfl⟩ (fun hHeld => ?_)
      clear hK K
      refine norm_ (a' := ?_) ?_ ?_
      rotate_left
      ·show Act.put _ (some 40) _ = _
       simp only [Act.put, List.setIfInBounds_toArray, List.set_cons_zero, List.set_cons_succ, i64_w, i32_w]
       rfl
      refine one_ (i := 8) (N := some 41) #[true, true, true, true, true, true, true, true, true, false, false] rfl rfl (one_of HT_.out (by kernel_rfl)) (by decide) (fun K hK => ?_)
      refine goes_ Try.func16 (by kernel_rfl) rfl #[.slice Ao40 t475.length co40, .slice Ao41 t478.length co41] (by rfl) rfl rfl s2_ ?_
      with_reducible refine (conciergeref5_EqTexts.calls k1 _ _ t475 _ _ t478 t481 _ ?side1 ?side2 ?side3 ?side4 A35.out).mono ?_
      (case side1 => repeat (first | exact (Kd.R_reads' HO477.out).2.2 | (with_reducible refine Kd.C_alloc ?_ _) | (with_reducible refine Kd.C_drewN ?_ _) | (with_reducible refine Kd.C_drew ?_)))
      (case side2 => exact (Kd.R_reads' HO477.out).2.1)
      (case side3 => repeat (first | exact (Kd.R_reads' HO480.out).2.2 | (with_reducible refine Kd.C_alloc ?_ _) | (with_reducible refine Kd.C_drewN ?_ _) | (with_reducible refine Kd.C_drew ?_)))
      (case side4 => exact (Kd.R_reads' HO480.out).2.1)
      rintro e w' ⟨rfl, ⟨nd, rfl⟩⟩
      refine ⟨_, rfl, ?_⟩
      refine hK.out _ _ ⟨(blk_cell BK462.out 0).trans rfl, (blk_cell BK462.out 1).trans rfl⟩ (fun hHeld => ?_)
      clear hK K
      refine norm_ (a' := ?_) ?_ ?_
      rotate_left
      ·show Act.put _ (some 41) _ = _
       simp only [Act.put, List.setIfInBounds_toArray, List.set_cons_zero, List.set_cons_succ, i64_w, i32_w]
       rfl
      refine pure_ (i := 9) (N := some 42) (v := ?_) (a' := ?_) #[true, true, true, true, true, true, true, true, true, true, false] rfl rfl (any_of HT_.out (by kernel_rfl)) (fun _ _ _ h => h) (Or.inl ⟨by rfl, ?_⟩) ?_ ?_
      rotate_left
      ·intro w'
       go_simp
       with_reducible rfl
      rotate_left
      ·simp only [Act.put, List.setIfInBounds_toArray, List.set_cons_zero, List.set_cons_succ, i64_w, i32_w]
       rfl
      refine pure_ (i := 10) (N := some 4) (v := ?_) (a' := ?_) #[true, true, true, true, true, true, true, true, true, true, true] rfl rfl (any_of HT_.out (by kernel_rfl)) (fun _ _ _ h => h) (Or.inl ⟨by rfl, ?_⟩) ?_ ?_
      rotate_left
      ·intro w'
       go_simp
       with_reducible rfl
      rotate_left
      ·simp only [Act.put, List.setIfInBounds_toArray, List.set_cons_zero, List.set_cons_succ, i64_w, i32_w]
       rfl
      refine done_ (done_of HT_.out (by kernel_rfl)) ?_
      try go_wp2
      go_ret
      exact ⟨by first | rfl | (simp [errW_none, errW_some] <;> rfl) | (simp [*, errW_none, errW_some] <;> rfl), (fB1 GE462)⟩
     ·exact absurd rfl c32
 ·replace c4 := Bool.eq_false_iff.mpr c4
  subst c4
  rw [if_neg (show ¬ (false = true) by decide)] at H
  obtain rfl := Option.some.inj H
  go_enter Try.func4, Try.ntmps4
  go_wp2_with (first | ((with_reducible refine gate_callee (f := 7) rfl ?_); refine goesL_ (some 9) rfl rfl Try.func7 (by kernel_rfl) rfl #[] rfl s2_ ?_; (with_reducible refine (conciergelaw20_begun.calls k  false _ A3.out).mono ?_); rintro e w43 ⟨rfl, hb⟩; refine ⟨_, rfl, ?_⟩; have n0_ := Aside0.mk (below_step (fB0) hb); clear HB; have HB := n0_; clear n0_; (try clear hb); (try clear hb2); (try clear hk); (try clear hi)))
  go_ret
  exact ⟨by first | rfl | (simp [errW_none, errW_some] <;> rfl) | (simp [*, errW_none, errW_some] <;> rfl), (fB0)⟩
end Go.Proofs.Ytlfhahnceeoegaa.All
end
section
set_option linter.unusedVariables false
set_option linter.unusedSimpArgs false
namespace Go.Proofs.Ytlfhahnceeoegaa.All
open Go.RowKit Go.Proofs.YtlfhahnceeoegaaW.PrintWords Go.Proofs.YtlfhahnceeoegaaW.PrintLast Go.Proofs.YtlfhahnceeoegaaW.PrintMore
theorem lz_some (x : Int) (h0 : 0 ≤ x) (h1 : x ≤ 255) : ∃ r, bits_LeadingZeros8.f x = some r := by
 unfold bits_LeadingZeros8.f bits_Len8.f
 rw [if_pos h0, if_pos h1]
 exact ⟨_, rfl⟩
theorem bt_xor (a b : ByteArray) (i : Int) : 0 ≤ Go.bits .xor .u8 (bt a i) (bt b i) ∧ Go.bits .xor .u8 (bt a i) (bt b i) ≤ 255 := by
 have h1 := bt_range a i
 have h2 := bt_range b i
 rw [u8_xor _ _ (by omega) (by omega) (by omega) (by omega)]
 have h3 : (bt a i).toNat ^^^ (bt b i).toNat < 2 ^ 8 := Nat.xor_lt_two_pow (by omega) (by omega)
 omega
theorem w_succ (i n : Nat) (h : i < n) (hn : n ≤ 4611686018427387904) : wrap64 ((i : Int) + 1) = ((i + 1 : Nat) : Int) := by
 unfold wrap64
 omega
theorem common_l (a b : ByteArray) (hs : a.size = b.size) (hn : a.size ≤ 4611686018427387904) : ∀ (d i : Nat), a.size - i = d → ∃ r, Ev (fun k => addr_Common.l0 k a b (a.size : Int) (i : Int)) r
 | 0, i, h => ⟨_, Ev.step (f := fun _ => some (wrap64 (8 * (a.size : Int)))) (fun k => by simp only [addr_Common.l0]; rw [if_neg (by omega)]) (Ev.now _)⟩
 | d + 1, i, h => by
  have hlt : i < a.size := by omega
  by_cases hz : Go.bits .xor .u8 (bt a i) (bt b i) = 0
  ·obtain ⟨r, hr⟩ := common_l a b hs hn d (i + 1) (by omega)
   refine ⟨r, Ev.step (fun k => ?_) hr⟩
   simp only [addr_Common.l0]
   rw [if_pos (by omega), if_pos (by omega), if_pos (by omega), if_pos (by omega), if_pos hz, w_succ i _ hlt hn]
  ·obtain ⟨z, hl⟩ := lz_some _ (bt_xor a b i).1 (bt_xor a b i).2
   refine ⟨_, Ev.step (f := fun _ => some (wrap64 ((wrap64 (8 * (i : Int))) + z))) (fun k => ?_) (Ev.now _)⟩
   simp only [addr_Common.l0]
   rw [if_pos (by omega), if_pos (by omega), if_pos (by omega), if_pos (by omega), if_neg hz, hl]
   rfl
theorem is_some (a : ByteArray) : addr_Is.f a = some (decide (a.size = 4 ∨ a.size = 16)) := by
 unfold addr_Is.f
 by_cases h : a.size = 4
 ·rw [if_pos (by omega)]; simp [h]
 ·rw [if_neg (by omega)]
  by_cases h2 : a.size = 16
  ·simp [h, h2]
  ·simp [h, h2]; omega
theorem common_j (a b : ByteArray) (hs : a.size = b.size) (hn : a.size ≤ 4611686018427387904) (t : Bool) : ∃ r, Ev (fun k => addr_Common.j0 k a b t) r := by
 cases t with
 | true => exact ⟨_, Ev.step (f := fun _ => some 0) (fun k => by simp [addr_Common.j0]) (Ev.now _)⟩
 | false =>
  obtain ⟨r, hr⟩ := common_l a b hs hn _ 0 rfl
  exact ⟨r, Ev.step (fun k => by simp only [addr_Common.j0]; rw [if_neg (by decide)]; rfl) hr⟩
theorem common_some (a b : ByteArray) : ∃ r, Ev (fun k => addr_Common.f k a b) r := by
 by_cases hs : a.size = b.size
 ·by_cases hi : a.size = 4 ∨ a.size = 16
  ·obtain ⟨r, hr⟩ := common_j a b hs (by omega) false
   refine ⟨r, Ev.congr (fun k => ?_) hr⟩
   unfold addr_Common.f
   rw [if_pos (by omega), is_some, decide_eq_true hi]
   rfl
  ·refine ⟨0, Ev.congr (f := fun k => addr_Common.j0 k a b true) (fun k => ?_) (Ev.step (f := fun _ => some 0) (fun k => by simp [addr_Common.j0]) (Ev.now _))⟩
   unfold addr_Common.f
   rw [if_pos (by omega), is_some, decide_eq_false hi]
   rfl
 ·refine ⟨0, Ev.congr (f := fun k => addr_Common.j0 k a b true) (fun k => ?_) (Ev.step (f := fun _ => some 0) (fun k => by simp [addr_Common.j0]) (Ev.now _))⟩
  unfold addr_Common.f
  rw [if_neg (by omega)]
theorem in_some (a b : ByteArray) (n : Int) : ∃ r, Ev (fun k => addr_In.f k a b n) r := by
 obtain ⟨c, K, hK⟩ := common_some a b
 by_cases h1 : (a.size : Int) = (b.size : Int)
 ·by_cases h2 : a.size = 4 ∨ a.size = 16
  ·by_cases h3 : n ≥ 0
   ·by_cases h4 : n ≤ wrap64 (8 * (a.size : Int))
    ·refine ⟨decide (c ≥ n), K, fun k hk => ?_⟩
     show addr_In.f k a b n = _
     unfold addr_In.f
     rw [if_pos h1, is_some, decide_eq_true h2]
     simp only [Option.bind_some, if_true]
     rw [if_pos h3, if_pos h4, show addr_Common.f k a b = some c from hK k hk]
     rfl
    ·refine ⟨false, 0, fun k _ => ?_⟩
     show addr_In.f k a b n = _
     unfold addr_In.f
     rw [if_pos h1, is_some, decide_eq_true h2]
     simp only [Option.bind_some, if_true]
     rw [if_pos h3, if_neg h4]
   ·refine ⟨false, 0, fun k _ => ?_⟩
    show addr_In.f k a b n = _
    unfold addr_In.f
    rw [if_pos h1, is_some, decide_eq_true h2]
    simp only [Option.bind_some, if_true]
    rw [if_neg h3]
  ·refine ⟨false, 0, fun k _ => ?_⟩
   show addr_In.f k a b n = _
   unfold addr_In.f
   rw [if_pos h1, is_some, decide_eq_false h2]
   rfl
 ·refine ⟨false, 0, fun k _ => ?_⟩
  show addr_In.f k a b n = _
  unfold addr_In.f
  rw [if_neg h1]
theorem wide_some (a : ByteArray) : ∃ r, selecttab_wide.f a = some r := by
 unfold selecttab_wide.f
 by_cases h : (a.size : Int) = 4
 ·rw [if_pos h, if_pos (by omega)]; exact ⟨_, rfl⟩
 ·rw [if_neg h]; exact ⟨_, rfl⟩
theorem row_l (a : ByteArray) (R : List S52) (hn : R.length ≤ 4611686018427387904) : ∀ (d i : Nat) (x y z : Int), R.length - i = d → ∃ r, Ev (fun k => selecttab_Row.l0 k a x y z R (R.length : Int) (i : Int)) r
 | 0, i, x, y, z, h => ⟨_, Ev.step (f := fun _ => some (x, y)) (fun k => by simp only [selecttab_Row.l0]; rw [if_neg (by omega)]) (Ev.now _)⟩
 | d + 1, i, x, y, z, h => by
  have hlt : i < R.length := by omega
  obtain ⟨w, hw⟩ := wide_some a
  obtain ⟨t, ht⟩ := in_some w (rd_T52 R i).f0 (rd_T52 R i).f1
  have hs := w_succ i _ hlt hn
  cases t with
  | false =>
   obtain ⟨r, hr⟩ := row_l a R hn d (i + 1) x y z (by omega)
   refine ⟨r, Ev.step (f := fun k => (addr_In.f k w (rd_T52 R i).f0 (rd_T52 R i).f1).bind fun t => if t = true then (if ((rd_T52 R i).f1) > z then (selecttab_Row.l0 k a ((rd_T52 R i).f2) ((rd_T52 R i).f3) ((rd_T52 R i).f1) R (R.length : Int) ((i + 1 : Nat) : Int)) else (selecttab_Row.l0 k a x y z R (R.length : Int) ((i + 1 : Nat) : Int))) else (selecttab_Row.l0 k a x y z R (R.length : Int) ((i + 1 : Nat) : Int))) (fun k => ?_) (Ev.bind ht (Ev.congr (fun k => ?_) hr))⟩
   ·simp only [selecttab_Row.l0]
    rw [if_pos (by omega), if_pos (by omega), if_pos (by omega), hw, hs]
    rfl
   ·rw [if_neg (by decide)]
  | true =>
   by_cases hg : ((rd_T52 R i).f1) > z
   ·obtain ⟨r, hr⟩ := row_l a R hn d (i + 1) ((rd_T52 R i).f2) ((rd_T52 R i).f3) ((rd_T52 R i).f1) (by omega)
    refine ⟨r, Ev.step (f := fun k => (addr_In.f k w (rd_T52 R i).f0 (rd_T52 R i).f1).bind fun t => if t = true then (if ((rd_T52 R i).f1) > z then (selecttab_Row.l0 k a ((rd_T52 R i).f2) ((rd_T52 R i).f3) ((rd_T52 R i).f1) R (R.length : Int) ((i + 1 : Nat) : Int)) else (selecttab_Row.l0 k a x y z R (R.length : Int) ((i + 1 : Nat) : Int))) else (selecttab_Row.l0 k a x y z R (R.length : Int) ((i + 1 : Nat) : Int))) (fun k => ?_) (Ev.bind ht (Ev.congr (fun k => ?_) hr))⟩
    ·simp only [selecttab_Row.l0]
     rw [if_pos (by omega), if_pos (by omega), if_pos (by omega), hw, hs]
     rfl
    ·rw [if_pos rfl, if_pos hg]
   ·obtain ⟨r, hr⟩ := row_l a R hn d (i + 1) x y z (by omega)
    refine ⟨r, Ev.step (f := fun k => (addr_In.f k w (rd_T52 R i).f0 (rd_T52 R i).f1).bind fun t => if t = true then (if ((rd_T52 R i).f1) > z then (selecttab_Row.l0 k a ((rd_T52 R i).f2) ((rd_T52 R i).f3) ((rd_T52 R i).f1) R (R.length : Int) ((i + 1 : Nat) : Int)) else (selecttab_Row.l0 k a x y z R (R.length : Int) ((i + 1 : Nat) : Int))) else (selecttab_Row.l0 k a x y z R (R.length : Int) ((i + 1 : Nat) : Int))) (fun k => ?_) (Ev.bind ht (Ev.congr (fun k => ?_) hr))⟩
    ·simp only [selecttab_Row.l0]
     rw [if_pos (by omega), if_pos (by omega), if_pos (by omega), hw, hs]
     rfl
    ·rw [if_pos rfl, if_neg hg]
theorem row_some (R : List S52) (O : List ByteArray) (hn : R.length ≤ 4611686018427387904) (a : ByteArray) : ∃ r, Ev (fun k => selecttab_Row.f k R O a) r := by
 by_cases h : a.size = 4 ∨ a.size = 16
 ·obtain ⟨r, hr⟩ := row_l a R hn _ 0 1 40 (-1) rfl
  refine ⟨r, Ev.congr (fun k => ?_) hr⟩
  unfold selecttab_Row.f
  rw [is_some, decide_eq_true h]
  rfl
 ·refine ⟨(1, 40), Ev.congr (fun k => ?_) (Ev.now _)⟩
  unfold selecttab_Row.f
  rw [is_some, decide_eq_false h]
  rfl
theorem scope_j1 (a : ByteArray) (h : a.size = 16) (t : Bool) : ∃ r, Ev (fun k => selecttab_Scope.j1 k a t) r := by
 refine ⟨_, Ev.step (f := fun _ => if t = true then (some 2) else (if (bt a 0) = 255 then (some (wrap64 (Go.bits .and .u8 (bt a 1) 15))) else (some 14))) (fun k => ?_) (r := if t = true then 2 else (if (bt a 0) = 255 then (wrap64 (Go.bits .and .u8 (bt a 1) 15)) else 14)) ⟨0, fun k _ => ?_⟩⟩
 ·simp only [selecttab_Scope.j1]
  rw [if_pos (show 0 < (a.size : Int) by omega), if_pos (show 1 < (a.size : Int) by omega)]
 ·split
  ·rfl
  ·split <;> rfl
theorem scope_j0 (a : ByteArray) (t : Bool) : ∃ r, Ev (fun k => selecttab_Scope.j0 k a t) r := by
 cases t with
 | true => exact ⟨2, Ev.step (f := fun _ => some 2) (fun k => by simp [selecttab_Scope.j0]) (Ev.now _)⟩
 | false =>
  by_cases h4 : (a.size : Int) = 4
  ·exact ⟨14, Ev.step (f := fun _ => some 14) (fun k => by simp only [selecttab_Scope.j0]; rw [if_neg (by decide), if_pos h4]) (Ev.now _)⟩
  ·by_cases h16 : (a.size : Int) = 16
   ·by_cases hb : a.toList = ([0, 0, 0, 0, 0, 0, 0, 0, 0, 0, 0, 0, 0, 0, 0, 1] : List UInt8)
    ·obtain ⟨r, hr⟩ := scope_j1 a (by omega) true
     exact ⟨r, Ev.step (fun k => by simp only [selecttab_Scope.j0]; rw [if_neg (by decide), if_neg h4, if_pos h16, if_pos hb]) hr⟩
    ·by_cases h254 : bt a 0 = 254
     ·obtain ⟨r, hr⟩ := scope_j1 a (by omega) ((Go.bits .and .u8 (bt a 1) 192) == 128)
      exact ⟨r, Ev.step (fun k => by simp only [selecttab_Scope.j0]; rw [if_neg (by decide), if_neg h4, if_pos h16, if_neg hb, if_pos (by omega), if_pos h254, if_pos (by omega)]) hr⟩
     ·obtain ⟨r, hr⟩ := scope_j1 a (by omega) false
      exact ⟨r, Ev.step (fun k => by simp only [selecttab_Scope.j0]; rw [if_neg (by decide), if_neg h4, if_pos h16, if_neg hb, if_pos (by omega), if_neg h254]) hr⟩
   ·exact ⟨0, Ev.step (f := fun _ => some 0) (fun k => by simp only [selecttab_Scope.j0]; rw [if_neg (by decide), if_neg h4, if_neg h16]) (Ev.now _)⟩
theorem scope_some (a : ByteArray) : ∃ r, Ev (fun k => selecttab_Scope.f k a) r := by
 by_cases h4 : (a.size : Int) = 4
 ·by_cases h127 : bt a 0 = 127
  ·obtain ⟨r, hr⟩ := scope_j0 a true
   exact ⟨r, Ev.congr (fun k => by unfold selecttab_Scope.f; rw [if_pos h4, if_pos (by omega), if_pos h127]) hr⟩
  ·by_cases h169 : bt a 0 = 169
   ·obtain ⟨r, hr⟩ := scope_j0 a ((bt a 1) == 254)
    exact ⟨r, Ev.congr (fun k => by unfold selecttab_Scope.f; rw [if_pos h4, if_pos (by omega), if_neg h127, if_pos h169, if_pos (by omega)]) hr⟩
   ·obtain ⟨r, hr⟩ := scope_j0 a false
    exact ⟨r, Ev.congr (fun k => by unfold selecttab_Scope.f; rw [if_pos h4, if_pos (by omega), if_neg h127, if_neg h169]) hr⟩
 ·obtain ⟨r, hr⟩ := scope_j0 a false
  exact ⟨r, Ev.congr (fun k => by unfold selecttab_Scope.f; rw [if_neg h4]) hr⟩
theorem worse_some (b : Bool) : order_worse.f b = some (if b = true then 1 else 0) := by
 unfold order_worse.f
 split <;> rfl
theorem keys_some (R : List S52) (O : List ByteArray) (hn : R.length ≤ 4611686018427387904) (p q : ByteArray) : ∃ r, Ev (fun k => order_Keys.f k R O p q) r := by
 obtain ⟨r1, e1⟩ := row_some R O hn p
 obtain ⟨r2, e2⟩ := row_some R O hn q
 obtain ⟨s1, e3⟩ := scope_some p
 obtain ⟨s2, e4⟩ := scope_some q
 obtain ⟨c, e5⟩ := common_some p q
 obtain ⟨K1, h1⟩ := e1
 obtain ⟨K2, h2⟩ := e2
 obtain ⟨K3, h3⟩ := e3
 obtain ⟨K4, h4⟩ := e4
 obtain ⟨K5, h5⟩ := e5
 by_cases hq : q.toList = ([] : List UInt8)
 ·refine ⟨(if (q.toList == ([] : List UInt8)) = true then 1 else 0, if true = true then 1 else 0, if true = true then 1 else 0, wrap64 (-r1.2), s1, wrap64 (-c)), K1 + K2 + K3 + K4 + K5, fun k hk => ?_⟩
  show order_Keys.f k R O p q = _
  unfold order_Keys.f
  rw [show selecttab_Row.f k R O p = some r1 from h1 k (by omega), show selecttab_Row.f k R O q = some r2 from h2 k (by omega), show selecttab_Scope.f k p = some s1 from h3 k (by omega), show addr_Common.f k p q = some c from h5 k (by omega)]
  simp only [Option.bind_some, worse_some]
  rw [if_pos hq]
 ·refine ⟨(if (q.toList == ([] : List UInt8)) = true then 1 else 0, if (s1 != s2) = true then 1 else 0, if (r1.1 != r2.1) = true then 1 else 0, wrap64 (-r1.2), s1, wrap64 (-c)), K1 + K2 + K3 + K4 + K5, fun k hk => ?_⟩
  show order_Keys.f k R O p q = _
  unfold order_Keys.f
  rw [show selecttab_Row.f k R O p = some r1 from h1 k (by omega), show selecttab_Row.f k R O q = some r2 from h2 k (by omega), show selecttab_Scope.f k p = some s1 from h3 k (by omega), show selecttab_Scope.f k q = some s2 from h4 k (by omega), show addr_Common.f k p q = some c from h5 k (by omega)]
  simp only [Option.bind_some, worse_some]
  rw [if_neg hq]
end Go.Proofs.Ytlfhahnceeoegaa.All
end
section
set_option linter.unusedVariables false
set_option linter.unusedSimpArgs false
namespace Go.Proofs.Ytlfhahnceeoegaa.All
open Go.Proofs Go.Sort
def cmpL : List Int → List Int → Int
 | x :: xs, y :: ys => if ci x y = 0 then cmpL xs ys else ci x y
 | _, _ => 0
theorem cmp6_eq (a b : S35) : cmp6 a b = cmpL (six a) (six b) := by
 simp only [cmp6, six, cmpL]
 repeat (first | rfl | split)
theorem ci_lt (x y : Int) : ci x y < 0 ↔ x < y := by unfold ci; split <;> (try split) <;> omega
theorem ci_zero (x y : Int) : ci x y = 0 ↔ x = y := by unfold ci; split <;> (try split) <;> omega
theorem cmpL_refl : ∀ l : List Int, cmpL l l = 0
 | [] => rfl
 | x :: xs => by
  simp only [cmpL]
  rw [if_pos ((ci_zero x x).2 rfl)]
  exact cmpL_refl xs
theorem cmpL_le : ∀ (a b c : List Int), a.length = b.length → b.length = c.length → ¬ cmpL b a < 0 → ¬ cmpL c b < 0 → ¬ cmpL c a < 0
 | [], [], [], _, _, _, _ => by simp [cmpL]
 | x :: xs, y :: ys, z :: zs, h1, h2, h3, h4 => by
  simp only [cmpL] at h3 h4 ⊢
  have hi := cmpL_le xs ys zs (by simpa using h1) (by simpa using h2)
  by_cases e1 : ci y x = 0
  ·have f1 := (ci_zero y x).1 e1
   rw [if_pos e1] at h3
   by_cases e2 : ci z y = 0
   ·have f2 := (ci_zero z y).1 e2
    rw [if_pos e2] at h4
    rw [if_pos ((ci_zero z x).2 (by omega))]
    exact hi h3 h4
   ·rw [if_neg e2] at h4
    have f2 := (not_congr (ci_lt z y)).1 h4
    have g2 := (not_congr (ci_zero z y)).1 e2
    rw [if_neg ((not_congr (ci_zero z x)).2 (by omega))]
    exact (not_congr (ci_lt z x)).2 (by omega)
  ·rw [if_neg e1] at h3
   have f1 := (not_congr (ci_lt y x)).1 h3
   have g1 := (not_congr (ci_zero y x)).1 e1
   have f2 : ¬ z < y := by
    by_cases e2 : ci z y = 0
    ·have := (ci_zero z y).1 e2; omega
    ·rw [if_neg e2] at h4; exact (not_congr (ci_lt z y)).1 h4
   rw [if_neg ((not_congr (ci_zero z x)).2 (by omega))]
   exact (not_congr (ci_lt z x)).2 (by omega)
theorem cmpL_trans : ∀ (a b c : List Int), a.length = b.length → b.length = c.length → cmpL a b < 0 → cmpL b c < 0 → cmpL a c < 0
 | [], [], [], _, _, h, _ => by simp [cmpL] at h
 | x :: xs, y :: ys, z :: zs, h1, h2, h3, h4 => by
  simp only [cmpL] at h3 h4 ⊢
  have hi := cmpL_trans xs ys zs (by simpa using h1) (by simpa using h2)
  by_cases e1 : ci x y = 0
  ·have f1 := (ci_zero x y).1 e1
   rw [if_pos e1] at h3
   by_cases e2 : ci y z = 0
   ·have f2 := (ci_zero y z).1 e2
    rw [if_pos e2] at h4
    rw [if_pos ((ci_zero x z).2 (by omega))]
    exact hi h3 h4
   ·rw [if_neg e2] at h4
    have f2 := (ci_lt y z).1 h4
    rw [if_neg ((not_congr (ci_zero x z)).2 (by omega))]
    exact (ci_lt x z).2 (by omega)
  ·rw [if_neg e1] at h3
   have f1 := (ci_lt x y).1 h3
   have f2 : ¬ z < y := by
    by_cases e2 : ci y z = 0
    ·have := (ci_zero y z).1 e2; omega
    ·rw [if_neg e2] at h4; have := (ci_lt y z).1 h4; omega
   rw [if_neg ((not_congr (ci_zero x z)).2 (by omega))]
   exact (ci_lt x z).2 (by omega)
theorem swo : SWO (ltOf cmpK) where
 irrefl x := by simp [ltOf, cmpK, cmp6_eq, cmpL_refl]
 trans x y z h1 h2 := by
  simp only [ltOf, cmpK, cmp6_eq, decide_eq_true_eq] at h1 h2 ⊢
  exact cmpL_trans (six x.f1) (six y.f1) (six z.f1) rfl rfl h1 h2
 ntrans x y z h1 h2 := by
  simp only [ltOf, cmpK, cmp6_eq, decide_eq_false_iff_not] at h1 h2 ⊢
  exact cmpL_le (six z.f1) (six y.f1) (six x.f1) rfl rfl h2 h1
def isort (l : List S59) : List S59 := insertionS l 0 l.length
theorem isort_length (l : List S59) : (isort l).length = l.length := by
 unfold isort
 rw [insertionS_eq, Array.length_toList, size_insertionSort]
 simp
theorem isort_perm (l : List S59) : (isort l).Perm l := by
 unfold isort
 rw [insertionS_eq]
 have h := (insertionSort_holds (lt := ltOf cmpK) swo l.toArray 0 l.length (Nat.zero_le _) (by simp)).1
 have h2 := h.2.2
 have e1 : (Sort.insertionSort (ltOf cmpK) l.toArray 0 l.length).extract 0 l.length = Sort.insertionSort (ltOf cmpK) l.toArray 0 l.length := Array.extract_eq_self_of_le (by rw [h.1]; simp)
 have e2 : l.toArray.extract 0 l.length = l.toArray := Array.extract_eq_self_of_le (by simp)
 rw [e1, e2] at h2
 simpa using h2
theorem insertionS_none (l : List S59) (a : Nat) : insertionS l a a = l := by
 unfold insertionS
 rw [show a - (a + 1) = 0 by omega]
 simp [insS]
end Go.Proofs.Ytlfhahnceeoegaa.All
end
section
set_option linter.unusedVariables false
set_option linter.unusedSimpArgs false
namespace Go.Proofs.Ytlfhahnceeoegaa.All
open Go.RowKit Go.Proofs.YtlfhahnceeoegaaW.PrintWords Go.Proofs.YtlfhahnceeoegaaW.PrintLast Go.Proofs.YtlfhahnceeoegaaW.PrintMore
theorem ins_some (l : List S59) (a b : Nat) (hab : a ≤ b) (hb : b ≤ l.length) (hl : l.length ≤ 20) : order_keyed_53.f l (a : Int) (b : Int) 26 = some (insertionS l a b) := by
 unfold order_keyed_53.f
 rw [if_pos ⟨rfl, by omega, by omega, by omega, by omega⟩, Int.toNat_natCast, Int.toNat_natCast]
theorem stable_l1 (l : List S59) (n : Nat) (hn : n ≤ 20) : Ev (fun k => order_keyed_43.l1 k l (n : Int) 26 20) l :=
 Ev.step (f := fun _ => some l) (fun k => by simp only [order_keyed_43.l1]; rw [if_neg (by omega)]) (Ev.now _)
theorem stable_some (l : List S59) (hl : l.length ≤ 20) : Ev (fun k => order_keyed_25.f k l 26) (isort l) := by
 unfold order_keyed_25.f
 refine Ev.bind (a := isort l) ?_ (Ev.now _)
 unfold order_keyed_43.f
 by_cases h20 : l.length = 20
 ·have e1 : order_keyed_53.f l 0 20 26 = some (isort l) := by
   have := ins_some l 0 20 (by omega) (by omega) hl
   unfold isort
   rw [h20]
   exact this
  have e2 : order_keyed_53.f (isort l) 20 20 26 = some (isort l) := by
   have := ins_some (isort l) 20 20 (by omega) (by rw [isort_length]; omega) (by rw [isort_length]; omega)
   rw [insertionS_none] at this
   exact this
  rw [h20]
  refine Ev.step (f := fun k => order_keyed_43.l0 k (isort l) ((20 : Nat) : Int) 26 20 20 40) (fun k => ?_) ?_
  ·simp only [order_keyed_43.l0]
   rw [if_pos (by omega), e1, show wrap64 ((20 : Int) + 20) = 40 by unfold wrap64; omega]
   rfl
  ·refine Ev.step (f := fun k => order_keyed_43.l1 k (isort l) ((20 : Nat) : Int) 26 20) (fun k => ?_) (stable_l1 _ _ (by omega))
   simp only [order_keyed_43.l0]
   rw [if_neg (by omega)]
   rw [show (((20 : Nat) : Int)) = 20 from rfl, e2]
   rfl
 ·have e1 : order_keyed_53.f l 0 (l.length : Int) 26 = some (isort l) := ins_some l 0 l.length (by omega) (by omega) hl
  refine Ev.step (f := fun k => order_keyed_43.l1 k (isort l) (l.length : Int) 26 20) (fun k => ?_) (stable_l1 _ _ hl)
  simp only [order_keyed_43.l0]
  rw [if_neg (by omega), e1]
  rfl
theorem collect (M : List S59) (hM : M.length ≤ 20) : ∀ (d i : Nat) (acc : List S34), M.length - i = d → acc.length ≤ i → i ≤ M.length → Ev (fun k => order_Sort.l1 k acc M (M.length : Int) (i : Int)) (acc ++ (M.drop i).map (·.f0))
 | 0, i, acc, h, ha, hi => by
  refine Ev.step (f := fun _ => some acc) (fun k => ?_) ?_
  ·simp only [order_Sort.l1]; rw [if_neg (by omega)]
  ·rw [List.drop_eq_nil_of_le (by omega)]
   simpa using Ev.now acc
 | d + 1, i, acc, h, ha, hi => by
  have hlt : i < M.length := by omega
  have hr := collect M hM d (i + 1) (acc ++ [(rd_T59 M i).f0]) (by omega) (by simp; omega) (by omega)
  have e : acc ++ [(rd_T59 M i).f0] ++ (M.drop (i + 1)).map (·.f0) = acc ++ (M.drop i).map (·.f0) := by
   have hp : rd_T59 M i = M[i] := by simp [rd_T59, List.getD_eq_getElem?_getD, List.getElem?_eq_getElem hlt]
   rw [List.drop_eq_getElem_cons hlt, List.map_cons, hp, List.append_assoc]
   rfl
  rw [e] at hr
  refine Ev.step (fun k => ?_) hr
  simp only [order_Sort.l1]
  rw [if_pos (by omega), if_pos (by omega), if_pos (by omega), if_pos (by omega), w_succ i _ hlt (by omega)]
theorem sort_l0 (R : List S52) (O : List ByteArray) (kd : S34 → S59) (h0 : ∀ p, (kd p).f0 = p) (hk : ∀ p, Ev (fun k => order_Keys.f k R O p.f0 p.f1) ((kd p).f1.f0, (kd p).f1.f1, (kd p).f1.f2, (kd p).f1.f3, (kd p).f1.f4, (kd p).f1.f5))
  (L : List S34) (hL : L.length ≤ 20) : ∀ (d i : Nat) (acc : List S59), L.length - i = d → i ≤ L.length → acc.length = i → Ev (fun k => order_Sort.l0 k acc L (L.length : Int) (i : Int) R O) ((isort (acc ++ (L.drop i).map kd)).map (·.f0))
 | 0, i, acc, h, hi, ha => by
  rw [List.drop_eq_nil_of_le (by omega), List.map_nil, List.append_nil]
  refine Ev.step (f := fun k => (order_keyed_25.f k acc 26).bind fun t => order_Sort.l1 k ([] : List S34) t (acc.length : Int) 0) (fun k => ?_) (Ev.bind (stable_some acc (by omega)) ?_)
  ·simp only [order_Sort.l0]
   rw [if_neg (by omega)]
  ·have := collect (isort acc) (by rw [isort_length]; omega) _ 0 [] rfl (Nat.le_refl _) (Nat.zero_le _)
   rw [isort_length] at this
   simpa using this
 | d + 1, i, acc, h, hi, ha => by
  have hlt : i < L.length := by omega
  have hp : rd_T34 L i = L[i] := by simp [rd_T34, List.getD_eq_getElem?_getD, List.getElem?_eq_getElem hlt]
  have hr := sort_l0 R O kd h0 hk L hL d (i + 1) (acc ++ [kd L[i]]) (by omega) (by omega) (by simp; omega)
  have e : acc ++ [kd L[i]] ++ (L.drop (i + 1)).map kd = acc ++ (L.drop i).map kd := by
   rw [List.drop_eq_getElem_cons hlt, List.map_cons, List.append_assoc]
   rfl
  rw [e] at hr
  refine Ev.step (f := fun k => (order_Keys.f k R O (L[i]).f0 (L[i]).f1).bind fun bt => order_Sort.l0 k (acc ++ [(⟨(⟨(L[i]).f0, (L[i]).f1⟩ : S34), (⟨bt.1, bt.2.1, bt.2.2.1, bt.2.2.2.1, bt.2.2.2.2.1, bt.2.2.2.2.2⟩ : S35)⟩ : S59)]) L (L.length : Int) ((i + 1 : Nat) : Int) R O) (fun k => ?_) (Ev.bind (hk L[i]) ?_)
  ·simp only [order_Sort.l0]
   rw [if_pos (by omega), if_pos (by omega), if_pos (by omega), hp, w_succ i _ hlt (by omega)]
   congr 1
   funext bt
   rw [if_pos (by omega)]
  ·have ek : (⟨(⟨(L[i]).f0, (L[i]).f1⟩ : S34), (⟨(kd L[i]).f1.f0, (kd L[i]).f1.f1, (kd L[i]).f1.f2, (kd L[i]).f1.f3, (kd L[i]).f1.f4, (kd L[i]).f1.f5⟩ : S35)⟩ : S59) = kd L[i] := by
    have := h0 L[i]
    generalize kd L[i] = x at this ⊢
    rw [← this]
   simp only
   rw [ek]
   exact hr
theorem sort_some (R : List S52) (O : List ByteArray) (hn : R.length ≤ 4611686018427387904) : ∃ kd : S34 → S59, (∀ p, (kd p).f0 = p) ∧ (∀ p, Ev (fun k => order_Keys.f k R O p.f0 p.f1) ((kd p).f1.f0, (kd p).f1.f1, (kd p).f1.f2, (kd p).f1.f3, (kd p).f1.f4, (kd p).f1.f5)) ∧
  ∀ L : List S34, L.length ≤ 20 → Ev (fun k => order_Sort.f k R O L) ((isort (L.map kd)).map (·.f0)) := by
 have hk : ∀ p : S34, ∃ x : S59, x.f0 = p ∧ Ev (fun k => order_Keys.f k R O p.f0 p.f1) (x.f1.f0, x.f1.f1, x.f1.f2, x.f1.f3, x.f1.f4, x.f1.f5) := by
  intro p
  obtain ⟨⟨r0, r1, r2, r3, r4, r5⟩, hr⟩ := keys_some R O hn p.f0 p.f1
  exact ⟨⟨p, ⟨r0, r1, r2, r3, r4, r5⟩⟩, rfl, hr⟩
 refine ⟨fun p => Classical.choose (hk p), fun p => (Classical.choose_spec (hk p)).1, fun p => (Classical.choose_spec (hk p)).2, fun L hL => ?_⟩
 exact sort_l0 R O _ (fun p => (Classical.choose_spec (hk p)).1) (fun p => (Classical.choose_spec (hk p)).2) L hL _ 0 [] rfl (Nat.zero_le _) rfl
end Go.Proofs.Ytlfhahnceeoegaa.All
end
section
set_option linter.unusedVariables false
set_option linter.unusedSimpArgs false
set_option maxRecDepth 100000
namespace Go.Proofs.Ytlfhahnceeoegaa.All
open Go.RowKit Go.Proofs.YtlfhahnceeoegaaW.PrintWords Go.Proofs.YtlfhahnceeoegaaW.PrintLast Go.Proofs.YtlfhahnceeoegaaW.PrintMore
def bitN (x j : Nat) : Nat := x / 2 ^ (7 - j) % 2
theorem bitN_test (x j : Nat) : bitN x j = (x.testBit (7 - j)).toNat := by
 unfold bitN
 rw [Nat.testBit_eq_decide_div_mod_eq]
 have : x / 2 ^ (7 - j) % 2 < 2 := Nat.mod_lt _ (by decide)
 by_cases h : x / 2 ^ (7 - j) % 2 = 1
 ·simp [h]
 ·have : x / 2 ^ (7 - j) % 2 = 0 := by omega
  simp [this]
theorem bitN_xor (x y j : Nat) : bitN x j = bitN y j ↔ bitN (x ^^^ y) j = 0 := by
 rw [bitN_test, bitN_test, bitN_test, Nat.testBit_xor]
 cases x.testBit (7 - j) <;> cases y.testBit (7 - j) <;> simp
theorem lz_bits : ∀ z : Fin 256, z.val ≠ 0 → Lib.bitLen z.val ≤ 8 ∧ 1 ≤ Lib.bitLen z.val ∧ (∀ j : Fin 8, j.val < 8 - Lib.bitLen z.val → bitN z.val j.val = 0) ∧ bitN z.val (8 - Lib.bitLen z.val) = 1 := by decide +kernel
theorem w_id (x : Int) (h0 : -4611686018427387904 ≤ x) (h1 : x ≤ 4611686018427387904) : wrap64 x = x := by
 unfold wrap64
 omega
theorem bit_val (a : ByteArray) (i j : Nat) (hi : i < a.size) (hj : j < 8) (hn : a.size ≤ 16) : conciergeref2_bit.f a ((8 * i + j : Nat) : Int) = some ((bitN (bt a i).toNat j : Nat) : Int) := by
 have h1 := bt_range a i
 have e1 : Int.tdiv ((8 * i + j : Nat) : Int) 8 = (i : Int) := by rw [Int.tdiv_eq_ediv_of_nonneg (by omega)]; omega
 have e2 : Int.tmod ((8 * i + j : Nat) : Int) 8 = (j : Int) := by rw [Int.tmod_eq_emod_of_nonneg (by omega)]; omega
 unfold conciergeref2_bit.f
 rw [e1, e2, w_id (i : Int) (by omega) (by omega), w_id (7 - (j : Int)) (by omega) (by omega), w_id (bt a i) (by omega) (by omega)]
 rw [if_pos (by omega), if_pos (by omega), if_pos (by omega)]
 congr 1
 unfold shr bitN
 have e3 : (7 - (j : Int)).toNat = 7 - j := by omega
 rw [e3, Nat.min_eq_left (by show 7 - j ≤ 64; omega)]
 obtain ⟨n, hn'⟩ : ∃ n : Nat, bt a i = (n : Int) := ⟨(bt a i).toNat, by omega⟩
 rw [hn', Int.toNat_natCast, Int.tmod_eq_emod_of_nonneg (Int.ediv_nonneg (by omega) (by exact_mod_cast Nat.zero_le _))]
 push_cast
 rfl
theorem ref_run (a b : ByteArray) (hs : a.size = b.size) (hn : a.size ≤ 16) (i : Nat) (hi : i < a.size) {r : Int} : ∀ (m j : Nat), j + m ≤ 8 → (∀ q, j ≤ q → q < j + m → bitN (bt a i).toNat q = bitN (bt b i).toNat q) →
  Ev (fun k => conciergeref2_Common.l0 k a b ((8 * i + (j + m) : Nat) : Int)) r → Ev (fun k => conciergeref2_Common.l0 k a b ((8 * i + j : Nat) : Int)) r
 | 0, j, _, _, h => h
 | m + 1, j, hj, hq, h => by
  refine Ev.step (fun k => ?_) (ref_run a b hs hn i hi m (j + 1) (by omega) (fun q h1 h2 => hq q (by omega) (by omega)) (by rw [show j + 1 + m = j + (m + 1) by omega]; exact h))
  simp only [conciergeref2_Common.l0]
  rw [w_id (8 * (a.size : Int)) (by omega) (by omega), if_pos (by omega), bit_val a i j hi (by omega) hn, bit_val b i j (by omega) (by omega) (by omega)]
  simp only [Option.bind_some]
  rw [if_pos (by rw [hq j (by omega) (by omega)]), w_id _ (by omega) (by omega)]
  congr 1
theorem common_sync_l (a b : ByteArray) (hs : a.size = b.size) (hn : a.size ≤ 16) : ∀ (d i : Nat), a.size - i = d → i ≤ a.size →
  ∃ r : Int, Ev (fun k => addr_Common.l0 k a b (a.size : Int) (i : Int)) r ∧ Ev (fun k => conciergeref2_Common.l0 k a b ((8 * i : Nat) : Int)) r
 | 0, i, h, hi => by
  refine ⟨((8 * i : Nat) : Int), Ev.step (f := fun _ => some (wrap64 (8 * (a.size : Int)))) (fun k => by simp only [addr_Common.l0]; rw [if_neg (by omega)]) ?_, Ev.step (f := fun _ => some ((8 * i : Nat) : Int)) (fun k => ?_) (Ev.now _)⟩
  ·rw [w_id _ (by omega) (by omega), show (8 * (a.size : Int)) = ((8 * i : Nat) : Int) by omega]
   exact Ev.now _
  ·simp only [conciergeref2_Common.l0]
   rw [w_id (8 * (a.size : Int)) (by omega) (by omega), if_neg (by omega)]
 | d + 1, i, h, hi => by
  have hlt : i < a.size := by omega
  have ha := bt_range a i
  have hb := bt_range b i
  obtain ⟨x, hx⟩ : ∃ x : Nat, bt a i = (x : Int) := ⟨(bt a i).toNat, by omega⟩
  obtain ⟨y, hy⟩ : ∃ y : Nat, bt b i = (y : Int) := ⟨(bt b i).toNat, by omega⟩
  have hz : Go.bits .xor .u8 (bt a i) (bt b i) = ((x ^^^ y : Nat) : Int) := by rw [u8_xor _ _ (by omega) (by omega) (by omega) (by omega), hx, hy]; rfl
  have hz8 : x ^^^ y < 256 := Nat.xor_lt_two_pow (n := 8) (by omega) (by omega)
  have hxn : (bt a i).toNat = x := by omega
  have hyn : (bt b i).toNat = y := by omega
  by_cases h0 : x ^^^ y = 0
  ·obtain ⟨r, h1, h2⟩ := common_sync_l a b hs hn d (i + 1) (by omega) (by omega)
   refine ⟨r, Ev.step (fun k => ?_) h1, ?_⟩
   ·simp only [addr_Common.l0]
    rw [if_pos (by omega), if_pos (by omega), if_pos (by omega), if_pos (by omega), if_pos (by rw [hz, h0]; rfl), w_succ i a.size hlt (by omega)]
   ·refine ref_run a b hs hn i hlt 8 0 (by omega) (fun q _ _ => ?_) ?_
    ·rw [hxn, hyn, bitN_xor, h0]
     simp [bitN]
    ·rw [show 8 * i + (0 + 8) = 8 * (i + 1) by omega]
     exact h2
  ·obtain ⟨l1, l2, l3, l4⟩ := lz_bits ⟨x ^^^ y, hz8⟩ h0
   simp only at l1 l2 l3 l4
   generalize ht : 8 - Lib.bitLen (x ^^^ y) = t at l3 l4
   refine ⟨((8 * i + t : Nat) : Int), Ev.step (f := fun _ => some ((8 * i + t : Nat) : Int)) (fun k => ?_) (Ev.now _), ?_⟩
   ·simp only [addr_Common.l0]
    rw [if_pos (by omega), if_pos (by omega), if_pos (by omega), if_pos (by omega), hz, if_neg (by exact_mod_cast h0)]
    unfold bits_LeadingZeros8.f bits_Len8.f
    rw [if_pos (by omega), if_pos (by omega), Int.toNat_natCast]
    simp only [Option.bind_some]
    rw [w_id (8 - ((Lib.bitLen (x ^^^ y) : Nat) : Int)) (by omega) (by omega), w_id (8 * (i : Int)) (by omega) (by omega), w_id _ (by omega) (by omega)]
    congr 1
    omega
   ·refine ref_run a b hs hn i hlt t 0 (by omega) (fun q _ hq => ?_) ?_
    ·rw [hxn, hyn, bitN_xor]
     exact l3 ⟨q, by omega⟩ (by simp only; omega)
    ·refine Ev.step (f := fun _ => some ((8 * i + (0 + t) : Nat) : Int)) (fun k => ?_) (by rw [Nat.zero_add]; exact Ev.now _)
     simp only [conciergeref2_Common.l0]
     rw [w_id (8 * (a.size : Int)) (by omega) (by omega), if_pos (by omega), Nat.zero_add, bit_val a i t hlt (by omega) hn, bit_val b i t (by omega) (by omega) (by omega)]
     simp only [Option.bind_some]
     rw [if_neg]
     rw [hxn, hyn]
     intro he
     have he' : bitN x t = bitN y t := by exact_mod_cast he
     rw [bitN_xor, l4] at he'
     exact absurd he' (by decide)
theorem common_sync (a b : ByteArray) : ∃ r : Int, Ev (fun k => addr_Common.f k a b) r ∧ Ev (fun k => conciergeref2_Common.f k a b) r := by
 by_cases hs : a.size = b.size
 ·by_cases hi : a.size = 4 ∨ a.size = 16
  ·obtain ⟨r, h1, h2⟩ := common_sync_l a b hs (by omega) _ 0 rfl (by omega)
   refine ⟨r, ?_, ?_⟩
   ·refine Ev.congr (f := fun k => addr_Common.j0 k a b false) (fun k => ?_) (Ev.step (fun k => by simp only [addr_Common.j0]; rw [if_neg (by decide)]; rfl) h1)
    unfold addr_Common.f
    rw [if_pos (by omega), is_some, decide_eq_true hi]
    rfl
   ·refine Ev.congr (f := fun k => conciergeref2_Common.j0 k a b false) (fun k => ?_) (Ev.step (fun k => by simp only [conciergeref2_Common.j0]; rw [if_neg (by decide)]; rfl) h2)
    unfold conciergeref2_Common.f
    rw [if_pos (by omega)]
    by_cases h4 : (a.size : Int) = 4
    ·rw [if_pos h4]
    ·rw [if_neg h4]
     congr 1
     have : (a.size : Int) = 16 := by omega
     simp [this]
  ·refine ⟨0, ?_, ?_⟩
   ·refine Ev.congr (f := fun k => addr_Common.j0 k a b true) (fun k => ?_) (Ev.step (f := fun _ => some 0) (fun k => by simp [addr_Common.j0]) (Ev.now _))
    unfold addr_Common.f
    rw [if_pos (by omega), is_some, decide_eq_false hi]
    rfl
   ·refine Ev.congr (f := fun k => conciergeref2_Common.j0 k a b true) (fun k => ?_) (Ev.step (f := fun _ => some 0) (fun k => by simp [conciergeref2_Common.j0]) (Ev.now _))
    unfold conciergeref2_Common.f
    rw [if_pos (by omega), if_neg (by omega)]
    congr 1
    have : ¬ (a.size : Int) = 16 := by omega
    simp [this]
 ·refine ⟨0, ?_, ?_⟩
  ·refine Ev.congr (f := fun k => addr_Common.j0 k a b true) (fun k => ?_) (Ev.step (f := fun _ => some 0) (fun k => by simp [addr_Common.j0]) (Ev.now _))
   unfold addr_Common.f
   rw [if_neg (by omega)]
  ·refine Ev.congr (f := fun k => conciergeref2_Common.j0 k a b true) (fun k => ?_) (Ev.step (f := fun _ => some 0) (fun k => by simp [conciergeref2_Common.j0]) (Ev.now _))
   unfold conciergeref2_Common.f
   rw [if_neg (by omega)]
theorem in_sync (a b : ByteArray) (n : Int) : ∃ r : Bool, Ev (fun k => addr_In.f k a b n) r ∧ Ev (fun k => conciergeref2_In.f k a b n) r := by
 obtain ⟨c, ⟨K1, h1⟩, ⟨K2, h2⟩⟩ := common_sync a b
 by_cases e1 : (a.size : Int) = (b.size : Int)
 ·by_cases e2 : a.size = 4 ∨ a.size = 16
  ·by_cases e3 : n ≥ 0
   ·by_cases e4 : n ≤ wrap64 (8 * (a.size : Int))
    ·refine ⟨decide (c ≥ n), ⟨K1, fun k hk => ?_⟩, ⟨K2, fun k hk => ?_⟩⟩
     ·show addr_In.f k a b n = _
      unfold addr_In.f
      rw [if_pos e1, is_some, decide_eq_true e2]
      simp only [Option.bind_some, if_true]
      rw [if_pos e3, if_pos e4, show addr_Common.f k a b = some c from h1 k hk]
      rfl
     ·show conciergeref2_In.f k a b n = _
      unfold conciergeref2_In.f
      rw [if_pos e1, show conciergeref2_Common.f k a b = some c from h2 k hk]
      simp only [Option.bind_some]
      by_cases e5 : (a.size : Int) = 4
      ·rw [if_pos e5, if_pos e3, if_pos e4]
      ·rw [if_neg e5, if_pos (by omega), if_pos e3, if_pos e4]
    ·refine ⟨false, ⟨0, fun k hk => ?_⟩, ⟨0, fun k hk => ?_⟩⟩
     ·show addr_In.f k a b n = _
      unfold addr_In.f
      rw [if_pos e1, is_some, decide_eq_true e2]
      simp only [Option.bind_some, if_true]
      rw [if_pos e3, if_neg e4]
     ·show conciergeref2_In.f k a b n = _
      unfold conciergeref2_In.f
      rw [if_pos e1]
      by_cases e5 : (a.size : Int) = 4
      ·rw [if_pos e5, if_pos e3, if_neg e4]
      ·rw [if_neg e5, if_pos (by omega), if_pos e3, if_neg e4]
   ·refine ⟨false, ⟨0, fun k hk => ?_⟩, ⟨0, fun k hk => ?_⟩⟩
    ·show addr_In.f k a b n = _
     unfold addr_In.f
     rw [if_pos e1, is_some, decide_eq_true e2]
     simp only [Option.bind_some, if_true]
     rw [if_neg e3]
    ·show conciergeref2_In.f k a b n = _
     unfold conciergeref2_In.f
     rw [if_pos e1]
     by_cases e5 : (a.size : Int) = 4
     ·rw [if_pos e5, if_neg e3]
     ·rw [if_neg e5, if_pos (by omega), if_neg e3]
  ·refine ⟨false, ⟨0, fun k hk => ?_⟩, ⟨0, fun k hk => ?_⟩⟩
   ·show addr_In.f k a b n = _
    unfold addr_In.f
    rw [if_pos e1, is_some, decide_eq_false e2]
    rfl
   ·show conciergeref2_In.f k a b n = _
    unfold conciergeref2_In.f
    rw [if_pos e1, if_neg (by omega), if_neg (by omega)]
 ·refine ⟨false, ⟨0, fun k hk => ?_⟩, ⟨0, fun k hk => ?_⟩⟩
  ·show addr_In.f k a b n = _
   unfold addr_In.f
   rw [if_neg e1]
  ·show conciergeref2_In.f k a b n = _
   unfold conciergeref2_In.f
   rw [if_neg e1]
theorem mapped_wide (a : ByteArray) : conciergeref15_mapped.f a = selecttab_wide.f a := rfl
theorem row_sync_l (a : ByteArray) (R : List S52) (O : List ByteArray) (hn : R.length ≤ 4611686018427387904) : ∀ (d i : Nat) (x y z : Int), R.length - i = d →
  ∃ r : Int × Int, Ev (fun k => selecttab_Row.l0 k a x y z R (R.length : Int) (i : Int)) r ∧ Ev (fun k => conciergeref15_Row.l0 k a x y z (i : Int) R O) r
 | 0, i, x, y, z, h => ⟨(x, y), Ev.step (f := fun _ => some (x, y)) (fun k => by simp only [selecttab_Row.l0]; rw [if_neg (by omega)]) (Ev.now _), Ev.step (f := fun _ => some (x, y)) (fun k => by simp only [conciergeref15_Row.l0]; rw [if_neg (by omega)]) (Ev.now _)⟩
 | d + 1, i, x, y, z, h => by
  have hlt : i < R.length := by omega
  obtain ⟨w, hw⟩ := wide_some a
  obtain ⟨t, ht, ht'⟩ := in_sync w (rd_T52 R i).f0 (rd_T52 R i).f1
  have hs := w_succ i _ hlt hn
  obtain ⟨r1, a1, b1⟩ := row_sync_l a R O hn d (i + 1) x y z (by omega)
  obtain ⟨r2, a2, b2⟩ := row_sync_l a R O hn d (i + 1) ((rd_T52 R i).f2) ((rd_T52 R i).f3) ((rd_T52 R i).f1) (by omega)
  generalize hp : rd_T52 R (i : Int) = pp at *
  refine ⟨if t = true ∧ pp.f1 > z then r2 else r1, ?_, ?_⟩
  ·refine Ev.step (f := fun k => (addr_In.f k w pp.f0 pp.f1).bind fun t => if t = true then (if pp.f1 > z then (selecttab_Row.l0 k a pp.f2 pp.f3 pp.f1 R (R.length : Int) ((i + 1 : Nat) : Int)) else (selecttab_Row.l0 k a x y z R (R.length : Int) ((i + 1 : Nat) : Int))) else (selecttab_Row.l0 k a x y z R (R.length : Int) ((i + 1 : Nat) : Int))) (fun k => ?_) (Ev.bind ht ?_)
   ·simp only [selecttab_Row.l0]
    rw [if_pos (by omega), if_pos (by omega), if_pos (by omega), hw, hs, hp]
    rfl
   ·cases t with
    | false => simpa using a1
    | true =>
     by_cases hg : pp.f1 > z
     ·simpa [hg] using a2
     ·simpa [hg] using a1
  ·by_cases hg : pp.f1 > z
   ·refine Ev.step (f := fun k => (conciergeref2_In.f k w pp.f0 pp.f1).bind fun t => if t = true then (conciergeref15_Row.l0 k a pp.f2 pp.f3 pp.f1 ((i + 1 : Nat) : Int) R O) else (conciergeref15_Row.l0 k a x y z ((i + 1 : Nat) : Int) R O)) (fun k => ?_) (Ev.bind ht' ?_)
    ·simp only [conciergeref15_Row.l0]
     rw [if_pos (by omega), if_pos (by omega), hp, if_pos hg, mapped_wide, hw, hs]
     rfl
    ·cases t with
     | false => simpa using b1
     | true => simpa [hg] using b2
   ·refine Ev.step (f := fun k => conciergeref15_Row.l0 k a x y z ((i + 1 : Nat) : Int) R O) (fun k => ?_) (by simpa [hg] using b1)
    simp only [conciergeref15_Row.l0]
    rw [if_pos (by omega), if_pos (by omega), hp, if_neg hg, hs]
theorem row_sync (R : List S52) (O : List ByteArray) (hn : R.length ≤ 4611686018427387904) (a : ByteArray) : ∃ r : Int × Int, Ev (fun k => selecttab_Row.f k R O a) r ∧ Ev (fun k => conciergeref15_Row.f k R O a) r := by
 by_cases h : a.size = 4 ∨ a.size = 16
 ·obtain ⟨r, h1, h2⟩ := row_sync_l a R O hn _ 0 1 40 (-1) rfl
  refine ⟨r, Ev.congr (fun k => ?_) h1, Ev.congr (f := fun k => conciergeref15_Row.j0 k a 1 40 (-1) false R O) (fun k => ?_) (Ev.step (fun k => by simp only [conciergeref15_Row.j0]; rw [if_neg (by decide)]; rfl) h2)⟩
  ·unfold selecttab_Row.f
   rw [is_some, decide_eq_true h]
   rfl
  ·unfold conciergeref15_Row.f
   by_cases e : (a.size : Int) = 4
   ·rw [if_pos e]
   ·rw [if_neg e]
    have : (a.size : Int) = 16 := by omega
    simp [this]
 ·refine ⟨(1, 40), Ev.congr (fun k => ?_) (Ev.now _), Ev.congr (f := fun k => conciergeref15_Row.j0 k a 1 40 (-1) true R O) (fun k => ?_) (Ev.step (f := fun _ => some (1, 40)) (fun k => by simp [conciergeref15_Row.j0]) (Ev.now _))⟩
  ·unfold selecttab_Row.f
   rw [is_some, decide_eq_false h]
   rfl
  ·unfold conciergeref15_Row.f
   rw [if_neg (by omega)]
   rw [show ((a.size : Int) != 16) = true from bne_iff_ne.mpr (by omega)]
theorem scope_sync (a : ByteArray) : ∃ r : Int, Ev (fun k => selecttab_Scope.f k a) r ∧ conciergeref15_Scope.f a = some r := by
 have b0 := bt_range a 0
 have b1 := bt_range a 1
 have j0t : Ev (fun k => selecttab_Scope.j0 k a true) 2 := Ev.step (f := fun _ => some 2) (fun k => by simp [selecttab_Scope.j0]) (Ev.now _)
 have j1t : Ev (fun k => selecttab_Scope.j1 k a true) 2 := Ev.step (f := fun _ => some 2) (fun k => by simp [selecttab_Scope.j1]) (Ev.now _)
 by_cases h4 : (a.size : Int) = 4
 ·have j04 : Ev (fun k => selecttab_Scope.j0 k a false) 14 := Ev.step (f := fun _ => some 14) (fun k => by simp only [selecttab_Scope.j0]; rw [if_neg (by decide), if_pos h4]) (Ev.now _)
  by_cases h127 : bt a 0 = 127
  ·refine ⟨2, Ev.congr (fun k => by unfold selecttab_Scope.f; rw [if_pos h4, if_pos (by omega), if_pos h127]) j0t, ?_⟩
   unfold conciergeref15_Scope.f
   rw [if_pos h4, if_pos (by omega), if_pos h127]
  ·by_cases h169 : bt a 0 = 169
   ·by_cases h254 : bt a 1 = 254
    ·refine ⟨2, Ev.congr (fun k => by unfold selecttab_Scope.f; rw [if_pos h4, if_pos (by omega), if_neg h127, if_pos h169, if_pos (by omega), show (bt a 1 == 254) = true from beq_iff_eq.mpr h254]) j0t, ?_⟩
     unfold conciergeref15_Scope.f
     rw [if_pos h4, if_pos (by omega), if_neg h127, if_pos h169, if_pos (by omega), if_pos h254]
    ·refine ⟨14, Ev.congr (fun k => by unfold selecttab_Scope.f; rw [if_pos h4, if_pos (by omega), if_neg h127, if_pos h169, if_pos (by omega), show (bt a 1 == 254) = false from beq_eq_false_iff_ne.mpr h254]) j04, ?_⟩
     unfold conciergeref15_Scope.f
     rw [if_pos h4, if_pos (by omega), if_neg h127, if_pos h169, if_pos (by omega), if_neg h254]
   ·refine ⟨14, Ev.congr (fun k => by unfold selecttab_Scope.f; rw [if_pos h4, if_pos (by omega), if_neg h127, if_neg h169]) j04, ?_⟩
    unfold conciergeref15_Scope.f
    rw [if_pos h4, if_pos (by omega), if_neg h127, if_neg h169]
 ·by_cases h16 : (a.size : Int) = 16
  ·have hrep : (strOfNums (List.replicate 15 (0 : Int) ++ [1])).toList = ([0, 0, 0, 0, 0, 0, 0, 0, 0, 0, 0, 0, 0, 0, 0, 1] : List UInt8) := by decide +kernel
   have hone : a.toList = ([0, 0, 0, 0, 0, 0, 0, 0, 0, 0, 0, 0, 0, 0, 0, 1] : List UInt8) → bt a 0 = 0 := by
    intro h
    have ha : a = (⟨#[0, 0, 0, 0, 0, 0, 0, 0, 0, 0, 0, 0, 0, 0, 0, 1]⟩ : ByteArray) := by rw [Go.ByteArray.toList_eq] at h; exact ByteArray.ext (Array.ext' h)
    rw [ha]
    decide +kernel
   have j0f : ∀ {r : Int} {t : Bool}, a.toList ≠ ([0, 0, 0, 0, 0, 0, 0, 0, 0, 0, 0, 0, 0, 0, 0, 1] : List UInt8) → ((bt a 0 = 254 ∧ t = (Go.bits .and .u8 (bt a 1) 192 == 128)) ∨ (bt a 0 ≠ 254 ∧ t = false)) → Ev (fun k => selecttab_Scope.j1 k a t) r → Ev (fun k => selecttab_Scope.j0 k a false) r := by
    intro r t hb ht hr
    refine Ev.step (fun k => ?_) hr
    simp only [selecttab_Scope.j0]
    rw [if_neg (by decide), if_neg h4, if_pos h16, if_neg hb, if_pos (by omega)]
    rcases ht with ⟨e, rfl⟩ | ⟨e, rfl⟩
    ·rw [if_pos e, if_pos (by omega)]
    ·rw [if_neg e]
   have f0 : ∀ {r : Int}, Ev (fun k => selecttab_Scope.j0 k a false) r → Ev (fun k => selecttab_Scope.f k a) r := fun h => Ev.congr (fun k => by unfold selecttab_Scope.f; rw [if_neg h4]) h
   by_cases h255 : bt a 0 = 255
   ·have hb : a.toList ≠ ([0, 0, 0, 0, 0, 0, 0, 0, 0, 0, 0, 0, 0, 0, 0, 1] : List UInt8) := fun h => by have := hone h; omega
    refine ⟨wrap64 (Go.bits .and .u8 (bt a 1) 15), f0 (j0f (t := false) hb (.inr ⟨by omega, rfl⟩) (Ev.step (f := fun _ => some (wrap64 (Go.bits .and .u8 (bt a 1) 15))) (fun k => ?_) (Ev.now _))), ?_⟩
    ·simp only [selecttab_Scope.j1]
     rw [if_neg (by decide), if_pos (by omega), if_pos h255, if_pos (by omega)]
    ·unfold conciergeref15_Scope.f
     rw [if_neg h4, if_pos h16, if_pos (by omega), if_pos h255, if_pos (by omega), show Go.bits .and .u8 (bt a 1) 15 = bt a 1 % 16 from u8_and15 (bt a 1) (by omega) (by omega), w_id (bt a 1) (by omega) (by omega), w_id _ (by omega) (by omega), Int.tmod_eq_emod_of_nonneg (by omega)]
   ·by_cases h254 : bt a 0 = 254
    ·have hb : a.toList ≠ ([0, 0, 0, 0, 0, 0, 0, 0, 0, 0, 0, 0, 0, 0, 0, 1] : List UInt8) := fun h => by have := hone h; omega
     have hand : (Go.bits .and .u8 (bt a 1) 192 == 128) = decide (Int.tdiv (bt a 1) 64 % 256 = 2) := by
      rw [u8_and _ _ (by omega) (by omega) (by decide) (by decide), Int.tdiv_eq_ediv_of_nonneg (by omega)]
      obtain ⟨x, hx⟩ : ∃ x : Fin 256, bt a 1 = ((x.val : Nat) : Int) := ⟨⟨(bt a 1).toNat, by omega⟩, by simp only; omega⟩
      rw [hx, Int.toNat_natCast]
      revert x
      have : ∀ x : Fin 256, (((x.val &&& (192 : Int).toNat : Nat) : Int) == 128) = decide (((x.val : Nat) : Int) / 64 % 256 = 2) := by decide +kernel
      exact fun x _ => this x
     by_cases hq : Int.tdiv (bt a 1) 64 % 256 = 2
     ·refine ⟨2, f0 (j0f hb (.inl ⟨h254, rfl⟩) (by rw [hand, decide_eq_true hq]; exact j1t)), ?_⟩
      unfold conciergeref15_Scope.f
      rw [if_neg h4, if_pos h16, if_pos (by omega), if_neg h255, if_pos h254, if_pos (by omega), if_pos hq]
     ·refine ⟨14, f0 (j0f hb (.inl ⟨h254, rfl⟩) (by
       rw [hand, decide_eq_false hq]
       exact Ev.step (f := fun _ => some 14) (fun k => by simp only [selecttab_Scope.j1]; rw [if_neg (by decide), if_pos (by omega), if_neg h255]) (Ev.now _))), ?_⟩
      unfold conciergeref15_Scope.f
      rw [if_neg h4, if_pos h16, if_pos (by omega), if_neg h255, if_pos h254, if_pos (by omega), if_neg hq, if_pos (by decide)]
      simp only [Option.bind_some]
      rw [if_pos (by simp), if_neg (by rw [hrep]; exact hb)]
    ·by_cases hb : a.toList = ([0, 0, 0, 0, 0, 0, 0, 0, 0, 0, 0, 0, 0, 0, 0, 1] : List UInt8)
     ·refine ⟨2, f0 (Ev.step (fun k => by simp only [selecttab_Scope.j0]; rw [if_neg (by decide), if_neg h4, if_pos h16, if_pos hb]) j1t), ?_⟩
      unfold conciergeref15_Scope.f
      rw [if_neg h4, if_pos h16, if_pos (by omega), if_neg h255, if_neg h254, if_pos (by decide)]
      simp only [Option.bind_some]
      rw [if_pos (by simp), if_pos (by rw [hrep]; exact hb)]
     ·refine ⟨14, f0 (j0f hb (.inr ⟨h254, rfl⟩) (Ev.step (f := fun _ => some 14) (fun k => by simp only [selecttab_Scope.j1]; rw [if_neg (by decide), if_pos (by omega), if_neg h255]) (Ev.now _))), ?_⟩
      unfold conciergeref15_Scope.f
      rw [if_neg h4, if_pos h16, if_pos (by omega), if_neg h255, if_neg h254, if_pos (by decide)]
      simp only [Option.bind_some]
      rw [if_pos (by simp), if_neg (by rw [hrep]; exact hb)]
  ·refine ⟨0, Ev.congr (fun k => by unfold selecttab_Scope.f; rw [if_neg h4]) (Ev.step (f := fun _ => some 0) (fun k => by simp only [selecttab_Scope.j0]; rw [if_neg (by decide), if_neg h4, if_neg h16]) (Ev.now _)), ?_⟩
   unfold conciergeref15_Scope.f
   rw [if_neg h4, if_neg h16]
theorem keys_sync (R : List S52) (O : List ByteArray) (hn : R.length ≤ 4611686018427387904) (p q : ByteArray) : ∃ r : Int × Int × Int × Int × Int × Int, Ev (fun k => order_Keys.f k R O p q) r ∧ Ev (fun k => conciergeref15_Keys.f k R O p q) r := by
 obtain ⟨r1, ⟨K1, a1⟩, ⟨L1, b1⟩⟩ := row_sync R O hn p
 obtain ⟨r2, ⟨K2, a2⟩, ⟨L2, b2⟩⟩ := row_sync R O hn q
 obtain ⟨s1, ⟨K3, a3⟩, b3⟩ := scope_sync p
 obtain ⟨s2, ⟨K4, a4⟩, b4⟩ := scope_sync q
 obtain ⟨c, ⟨K5, a5⟩, hc⟩ := common_sync p q
 have j3 : ∀ (t : Bool) (y1 y2 y4 y5 y6 : Int), Ev (fun k => conciergeref15_Keys.j3 k r1.2 t p q y1 y2 0 y4 y5 y6) (y1, y2, if t = true then 1 else 0, wrap64 (-r1.2), s1, wrap64 (-c)) := by
  intro t y1 y2 y4 y5 y6
  refine Ev.step (f := fun k => (conciergeref2_Common.f k p q).bind fun c => some (y1, y2, if t = true then 1 else 0, wrap64 (-r1.2), s1, wrap64 (-c))) (fun k => ?_) (Ev.bind hc (Ev.now _))
  simp only [conciergeref15_Keys.j3, b3, Option.bind_some]
  cases t <;> rfl
 have j2 : ∀ (y1 y2 y4 y5 y6 : Int), Ev (fun k => conciergeref15_Keys.j2 k r1.1 r1.2 r2.1 p q y1 y2 0 y4 y5 y6) (y1, y2, if q.toList = ([] : List UInt8) then 1 else if (r1.1 != r2.1) = true then 1 else 0, wrap64 (-r1.2), s1, wrap64 (-c)) := by
  intro y1 y2 y4 y5 y6
  by_cases hq : q.toList = ([] : List UInt8)
  ·rw [if_pos hq]
   exact Ev.step (fun k => by simp only [conciergeref15_Keys.j2]; rw [if_pos hq]) (by simpa using j3 true y1 y2 y4 y5 y6)
  ·rw [if_neg hq]
   exact Ev.step (fun k => by simp only [conciergeref15_Keys.j2]; rw [if_neg hq]) (j3 (r1.1 != r2.1) y1 y2 y4 y5 y6)
 have j1 : ∀ (t : Bool) (y1 y4 y5 y6 : Int), Ev (fun k => conciergeref15_Keys.j1 k r1.1 r1.2 r2.1 t p q y1 0 0 y4 y5 y6) (y1, if t = true then 1 else 0, if q.toList = ([] : List UInt8) then 1 else if (r1.1 != r2.1) = true then 1 else 0, wrap64 (-r1.2), s1, wrap64 (-c)) := by
  intro t y1 y4 y5 y6
  cases t with
  | true => exact Ev.step (fun k => by simp only [conciergeref15_Keys.j1]; rw [if_pos trivial]) (by simpa using j2 y1 1 y4 y5 y6)
  | false => exact Ev.step (fun k => by simp only [conciergeref15_Keys.j1]; rw [if_neg (by decide)]) (by simpa using j2 y1 0 y4 y5 y6)
 have j0 : ∀ (y1 y4 y5 y6 : Int), Ev (fun k => conciergeref15_Keys.j0 k r1.1 r1.2 r2.1 p q y1 0 0 y4 y5 y6) (y1, if q.toList = ([] : List UInt8) then 1 else if (s1 != s2) = true then 1 else 0, if q.toList = ([] : List UInt8) then 1 else if (r1.1 != r2.1) = true then 1 else 0, wrap64 (-r1.2), s1, wrap64 (-c)) := by
  intro y1 y4 y5 y6
  by_cases hq : q.toList = ([] : List UInt8)
  ·have := j1 true y1 y4 y5 y6
   simp only [if_pos hq] at this ⊢
   exact Ev.step (fun k => by simp only [conciergeref15_Keys.j0]; rw [if_pos hq]) this
  ·have := j1 (s1 != s2) y1 y4 y5 y6
   simp only [if_neg hq] at this ⊢
   exact Ev.step (fun k => by simp only [conciergeref15_Keys.j0]; rw [if_neg hq, b3, b4]; rfl) this
 refine ⟨(if q.toList = ([] : List UInt8) then 1 else 0, if q.toList = ([] : List UInt8) then 1 else if (s1 != s2) = true then 1 else 0, if q.toList = ([] : List UInt8) then 1 else if (r1.1 != r2.1) = true then 1 else 0, wrap64 (-r1.2), s1, wrap64 (-c)), ⟨K1 + K2 + K3 + K4 + K5, fun k hk => ?_⟩, ?_⟩
 ·show order_Keys.f k R O p q = _
  unfold order_Keys.f
  rw [show selecttab_Row.f k R O p = some r1 from a1 k (by omega), show selecttab_Row.f k R O q = some r2 from a2 k (by omega), show selecttab_Scope.f k p = some s1 from a3 k (by omega), show selecttab_Scope.f k q = some s2 from a4 k (by omega), show addr_Common.f k p q = some c from a5 k (by omega)]
  simp only [Option.bind_some, worse_some]
  by_cases hq : q.toList = ([] : List UInt8)
  ·simp only [if_pos hq, hq]
   rfl
  ·simp only [if_neg hq, show (q.toList == ([] : List UInt8)) = false from beq_eq_false_iff_ne.mpr hq]
   rfl
 ·unfold conciergeref15_Keys.f
  refine Ev.bind ⟨L1, b1⟩ (Ev.bind ⟨L2, b2⟩ ?_)
  by_cases hq : q.toList = ([] : List UInt8)
  ·have := j0 1 0 0 0
   simp only [if_pos hq] at this ⊢
   exact this
  ·have := j0 0 0 0 0
   simp only [if_neg hq] at this ⊢
   exact this
end Go.Proofs.Ytlfhahnceeoegaa.All
end
section
set_option linter.unusedVariables false
set_option linter.unusedSimpArgs false
set_option maxRecDepth 100000
namespace Go.Proofs.Ytlfhahnceeoegaa.All
open Go.RowKit Go.Proofs.YtlfhahnceeoegaaW.PrintWords Go.Proofs.YtlfhahnceeoegaaW.PrintLast Go.Proofs.YtlfhahnceeoegaaW.PrintMore Go.Sort
theorem Ev.uniq {α : Type} {g : Nat → Option α} {r s : α} (h : Ev g r) (h' : Ev g s) : r = s := by
 obtain ⟨K, hK⟩ := h
 obtain ⟨L, hL⟩ := h'
 exact Option.some.inj ((hK (K + L) (by omega)).symm.trans (hL (K + L) (by omega)))
section
variable (x0 x1 x2 x3 x4 x5 y0 y1 y2 y3 y4 y5 : Int)
theorem less_step (i : Nat) (hi : i < 6) {r : Bool} (h : ix6 i x0 x1 x2 x3 x4 x5 = ix6 i y0 y1 y2 y3 y4 y5 → Ev (fun k => conciergeref15_Less.l0 k ((i + 1 : Nat) : Int) x0 x1 x2 x3 x4 x5 y0 y1 y2 y3 y4 y5) r)
  (h2 : ix6 i x0 x1 x2 x3 x4 x5 ≠ ix6 i y0 y1 y2 y3 y4 y5 → r = decide (ix6 i x0 x1 x2 x3 x4 x5 < ix6 i y0 y1 y2 y3 y4 y5)) : Ev (fun k => conciergeref15_Less.l0 k (i : Int) x0 x1 x2 x3 x4 x5 y0 y1 y2 y3 y4 y5) r := by
 by_cases e : ix6 i x0 x1 x2 x3 x4 x5 = ix6 i y0 y1 y2 y3 y4 y5
 ·refine Ev.step (fun k => ?_) (h e)
  simp only [conciergeref15_Less.l0]
  rw [if_pos (by omega), if_pos (by omega), if_pos e, w_succ i 6 hi (by omega)]
 ·refine Ev.step (f := fun _ => some r) (fun k => ?_) (Ev.now _)
  simp only [conciergeref15_Less.l0]
  rw [if_pos (by omega), if_pos (by omega), if_neg e, h2 e]
end
theorem less_l (a b : S35) : Ev (fun k => conciergeref15_Less.l0 k 0 a.f0 a.f1 a.f2 a.f3 a.f4 a.f5 b.f0 b.f1 b.f2 b.f3 b.f4 b.f5) (decide (cmp6 a b < 0)) := by
 refine less_step _ _ _ _ _ _ _ _ _ _ _ _ 0 (by decide) (fun e0 => ?_) (fun n0 => ?_)
 ·refine less_step _ _ _ _ _ _ _ _ _ _ _ _ 1 (by decide) (fun e1 => ?_) (fun n1 => ?_)
  ·refine less_step _ _ _ _ _ _ _ _ _ _ _ _ 2 (by decide) (fun e2 => ?_) (fun n2 => ?_)
   ·refine less_step _ _ _ _ _ _ _ _ _ _ _ _ 3 (by decide) (fun e3 => ?_) (fun n3 => ?_)
    ·refine less_step _ _ _ _ _ _ _ _ _ _ _ _ 4 (by decide) (fun e4 => ?_) (fun n4 => ?_)
     ·refine less_step _ _ _ _ _ _ _ _ _ _ _ _ 5 (by decide) (fun e5 => ?_) (fun n5 => ?_)
      ·have e : cmp6 a b = 0 := by
        simp [ix6] at e0 e1 e2 e3 e4 e5
        simp [cmp6, ci_zero, e0, e1, e2, e3, e4, e5]
       rw [e]
       refine Ev.step (f := fun _ => some false) (fun k => ?_) (Ev.now _)
       simp only [conciergeref15_Less.l0]
       rw [if_neg (by decide)]
      ·simp [ix6] at e0 e1 e2 e3 e4 n5
       simp [ix6, cmp6, ci_zero, ci_lt, e0, e1, e2, e3, e4, n5]
     ·simp [ix6] at e0 e1 e2 e3 n4
      simp [ix6, cmp6, ci_zero, ci_lt, e0, e1, e2, e3, n4]
    ·simp [ix6] at e0 e1 e2 n3
     simp [ix6, cmp6, ci_zero, ci_lt, e0, e1, e2, n3]
   ·simp [ix6] at e0 e1 n2
    simp [ix6, cmp6, ci_zero, ci_lt, e0, e1, n2]
  ·simp [ix6] at e0 n1
   simp [ix6, cmp6, ci_zero, ci_lt, e0, n1]
 ·simp [ix6] at n0
  simp [ix6, cmp6, ci_zero, ci_lt, n0]
section
variable (R : List S52) (O : List ByteArray) (kd : S34 → S59)
def KeyedBy : Prop := ∀ p : S34, Ev (fun k => conciergeref15_Keys.f k R O p.f0 p.f1) ((kd p).f1.f0, (kd p).f1.f1, (kd p).f1.f2, (kd p).f1.f3, (kd p).f1.f4, (kd p).f1.f5)
def ltP (p q : S34) : Bool := ltOf cmpK (kd p) (kd q)
variable {R O kd}
theorem less_some (hk : KeyedBy R O kd) (p q : S34) : Ev (fun k => conciergeref15_Less.f k R O p.f0 p.f1 q.f0 q.f1) (ltP kd p q) := by
 unfold conciergeref15_Less.f
 refine Ev.bind (hk p) (Ev.bind (hk q) ?_)
 exact less_l (kd p).f1 (kd q).f1
def bubP (lt : S34 → S34 → Bool) : Nat → List S34 → List S34
 | 0, M => M
 | j + 1, M => if lt (M.getD (j + 1) z34) (M.getD j z34) = true then bubP lt j ((M.set j (M.getD (j + 1) z34)).set (j + 1) (M.getD j z34)) else M
theorem bubP_step (lt : S34 → S34 → Bool) (j : Nat) (M : List S34) : bubP lt (j + 1) M = if lt (M.getD (j + 1) z34) (M.getD j z34) = true then bubP lt j ((M.set j (M.getD (j + 1) z34)).set (j + 1) (M.getD j z34)) else M := rfl
theorem bubP_length (lt : S34 → S34 → Bool) : ∀ (j : Nat) (M : List S34), (bubP lt j M).length = M.length
 | 0, _ => rfl
 | j + 1, M => by
  unfold bubP
  split
  ·rw [bubP_length lt j]; simp
  ·rfl
theorem ref_l1 (hk : KeyedBy R O kd) (L : List S34) (i : Nat) {r : List S34} : ∀ (j : Nat) (M : List S34), j < M.length → M.length ≤ 1000 →
  Ev (fun k => conciergeref15_Sort.l0 k L (bubP (ltP kd) j M) (wrap64 ((i : Int) + 1)) R O) r → Ev (fun k => conciergeref15_Sort.l1 k L M (i : Int) (j : Int) R O) r
 | 0, M, hj, hM, h => Ev.step (fun k => by simp only [conciergeref15_Sort.l1]; rw [if_neg (by decide)]; rfl) h
 | j + 1, M, hj, hM, h => by
  have ew : wrap64 (((j + 1 : Nat) : Int) - 1) = (j : Int) := by rw [w_id _ (by omega) (by omega)]; omega
  have e1 : rd_T34 M ((j + 1 : Nat) : Int) = M.getD (j + 1) z34 := rfl
  have e2 : rd_T34 M (j : Int) = M.getD j z34 := rfl
  generalize hp : M.getD (j + 1) z34 = p at *
  generalize hq : M.getD j z34 = q at *
  refine Ev.step (f := fun k => (conciergeref15_Less.f k R O p.f0 p.f1 q.f0 q.f1).bind fun t => if t = true then conciergeref15_Sort.l1 k L ((M.set j p).set (j + 1) q) (i : Int) (j : Int) R O else conciergeref15_Sort.l0 k L M (wrap64 ((i : Int) + 1)) R O) (fun k => ?_) (Ev.bind (less_some hk p q) ?_)
  ·simp only [conciergeref15_Sort.l1]
   rw [ew, if_pos (by omega), if_pos (by omega), if_pos (by omega), if_pos (by omega), if_pos (by omega), e1, e2]
   rfl
  ·cases ht : ltP kd p q with
   | false =>
    have hb : bubP (ltP kd) (j + 1) M = M := by unfold bubP; rw [hp, hq, ht]; rfl
    rw [hb] at h
    simpa using h
   | true =>
    have hb : bubP (ltP kd) (j + 1) M = bubP (ltP kd) j ((M.set j p).set (j + 1) q) := (bubP_step _ _ _).trans (by rw [hp, hq, ht]; rfl)
    rw [hb] at h
    have := ref_l1 hk L i j ((M.set j p).set (j + 1) q) (by simp; omega) (by simpa using hM) h
    simpa using this
theorem inner_bub : ∀ (j : Nat) (M : List S34) (rest : List S59), j < M.length → Sort.insInner (ltOf cmpK) 0 j (M.map kd ++ rest).toArray = ((bubP (ltP kd) j M).map kd ++ rest).toArray
 | 0, M, rest, h => rfl
 | j + 1, M, rest, h => by
  have hg : ∀ n, n < M.length → (M.map kd ++ rest).toArray[n]! = kd (M.getD n z34) := by
   intro n hn
   rw [getElem!_pos _ _ (by simp; omega)]
   simp [List.getElem_append_left, hn, List.getD_eq_getElem?_getD, List.getElem?_eq_getElem hn]
  unfold Sort.insInner
  rw [hg (j + 1) h, hg j (by omega)]
  have hlt : ltOf cmpK (kd (M.getD (j + 1) z34)) (kd (M.getD j z34)) = ltP kd (M.getD (j + 1) z34) (M.getD j z34) := rfl
  rw [hlt]
  generalize hp : M.getD (j + 1) z34 = p at *
  generalize hq : M.getD j z34 = q at *
  cases ht : ltP kd p q with
  | false =>
   have hb : bubP (ltP kd) (j + 1) M = M := by unfold bubP; rw [hp, hq, ht]; rfl
   rw [hb]
   simp
  | true =>
   have hb : bubP (ltP kd) (j + 1) M = bubP (ltP kd) j ((M.set j p).set (j + 1) q) := (bubP_step _ _ _).trans (by rw [hp, hq, ht]; rfl)
   rw [hb, ← inner_bub j ((M.set j p).set (j + 1) q) rest (by simp; omega)]
   have hs : swp (M.map kd ++ rest).toArray (j + 1) j = (((M.set j p).set (j + 1) q).map kd ++ rest).toArray := by
    unfold swp
    rw [hg (j + 1) h, hg j (by omega), hp, hq]
    apply Array.ext'
    simp [List.set_append, h, show j < M.length by omega, List.map_set]
    exact List.set_comm _ _ (by omega)
   rw [← hs]
   simp
theorem ref_l0 (hk : KeyedBy R O kd) (L : List S34) (hL : L.length ≤ 20) : ∀ (n i : Nat) (P : List S34), L.length - i = n → i ≤ L.length → P.length = i →
  ∃ P', P'.map kd = (insS 0 n i (P.map kd ++ (L.drop i).map kd).toArray).toList ∧ Ev (fun k => conciergeref15_Sort.l0 k L P (i : Int) R O) P'
 | 0, i, P, h, hi, hP => by
  refine ⟨P, ?_, Ev.step (f := fun _ => some P) (fun k => ?_) (Ev.now _)⟩
  ·rw [List.drop_eq_nil_of_le (by omega)]; simp [insS]
  ·simp only [conciergeref15_Sort.l0]; rw [if_neg (by omega)]
 | n + 1, i, P, h, hi, hP => by
  have hlt : i < L.length := by omega
  have hp : rd_T34 L (i : Int) = L[i] := by show L.getD i _ = _; simp [List.getD_eq_getElem?_getD, List.getElem?_eq_getElem hlt]
  have hl : (P ++ [L[i]]).length = i + 1 := by simp [hP]
  obtain ⟨P', h1, h2⟩ := ref_l0 hk L hL n (i + 1) (bubP (ltP kd) i (P ++ [L[i]])) (by omega) (by omega) (by rw [bubP_length, hl])
  refine ⟨P', ?_, Ev.step (fun k => ?_) (ref_l1 hk L i i (P ++ [L[i]]) (by omega) (by omega) (by rw [w_succ i 21 (by omega) (by omega)]; exact h2))⟩
  ·rw [h1]
   show _ = (insS 0 n (i + 1) (Sort.insInner (ltOf cmpK) 0 i (P.map kd ++ (L.drop i).map kd).toArray)).toList
   have e : P.map kd ++ (L.drop i).map kd = (P ++ [L[i]]).map kd ++ (L.drop (i + 1)).map kd := by
    rw [List.drop_eq_getElem_cons hlt, List.map_append, List.map_cons, List.map_cons, List.map_nil, List.append_assoc]; rfl
   rw [e, inner_bub i _ _ (by omega)]
  ·simp only [conciergeref15_Sort.l0]
   rw [if_pos (by omega), if_pos (by omega), if_pos (by omega), hp]
   simp only [Option.bind_some]
   rw [hl, w_id _ (by omega) (by omega)]
   congr 1
   omega
theorem ref_sort (h0 : ∀ p, (kd p).f0 = p) (hk : KeyedBy R O kd) (L : List S34) (hL : L.length ≤ 20) : Ev (fun k => conciergeref15_Sort.f k R O L) ((isort (L.map kd)).map (·.f0)) := by
 obtain ⟨P', h1, h2⟩ := ref_l0 hk L hL L.length 0 [] rfl (by omega) rfl
 have e : (isort (L.map kd)).map (·.f0) = P' := by
  have e2 : isort (L.map kd) = P'.map kd := by
   rw [h1]
   unfold isort insertionS
   cases L with
   | nil => rfl
   | cons p l =>
    rw [List.map_nil, List.nil_append, List.drop_zero]
    show (insS 0 ((List.map kd (p :: l)).length - 1) 1 _).toList = (insS 0 l.length 1 (Sort.insInner _ 0 0 _)).toList
    rw [List.length_map]
    rfl
  rw [e2, List.map_map]
  exact (List.map_congr_left (g := id) (fun x _ => h0 x)).trans (List.map_id _)
 rw [e]
 exact h2
end
end Go.Proofs.Ytlfhahnceeoegaa.All
end
