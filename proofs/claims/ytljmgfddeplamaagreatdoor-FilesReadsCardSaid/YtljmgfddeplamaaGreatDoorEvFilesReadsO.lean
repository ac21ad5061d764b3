/- FilesReads: what is out of its bounds. -/
import Derived.Test.YtljmgfddeplamaaGreatDoorEvFilesReadsS
import Derived.KernelRfl
namespace Go.Proofs.YtljmgfddeplamaaGreatDoor.filesReads
open Go Go.RowKit Go.YtljmgfddeplamaaGreatDoorEv
set_option linter.unusedVariables false
set_option linter.unusedSectionVars false
set_option maxRecDepth 100000

noncomputable def okT : Res → Bool
  | .done (.bool true) _ => true
  | _ => false
theorem okT_done {r : Res} (h : okT r = true) : ∃ σ, r = .done (.bool true) σ := by
  unfold okT at h
  split at h
  · exact ⟨_, rfl⟩
  · cases h
noncomputable def tst (ar : List SV) : Bool := okT (runQ Tryz.prog Orc.none 1000000 (.call 3 ar) ⟨.nil, []⟩ ⟨Tryz.prog.globals.size, .nil, none⟩)
theorem x0 (n : Nat) (a1 : Int) : tst [.int .i64 (.negSucc n), .int .i64 a1] = true := by kernel_rfl
theorem x1 (a1 : Int) : tst [.int .i64 (.ofNat 0), .int .i64 a1] = true := by kernel_rfl
theorem x2 (n : Nat) (a1 : Int) : tst [.int .i64 (.ofNat (n + 21)), .int .i64 a1] = true := by kernel_rfl
theorem x3 (n : Nat) : tst [.rng [(.ofNat 1, .ofNat 20)], .int .i64 (.negSucc n)] = true := by kernel_rfl
theorem x4 : tst [.rng [(.ofNat 1, .ofNat 20)], .int .i64 (.ofNat 0)] = true := by kernel_rfl
theorem x5 (n : Nat) : tst [.rng [(.ofNat 1, .ofNat 20)], .int .i64 (.ofNat (n + 21))] = true := by kernel_rfl
theorem out [Lane] {l : List SV} {a0 a1 : Int} (h : tst l = true) (hl : VRs (fun _ => none) l [.int .i64 a0, .int .i64 a1]) (W : World) : Calls Tryz.prog 3 #[.int .i64 a0, .int .i64 a1] W (Fin0 W) := by
  obtain ⟨σ, hσ⟩ := okT_done h
  have hw : WR Tryz.prog (fun _ => none) ⟨Tryz.prog.globals.size, .nil, none⟩ W :=
    ⟨fun _ _ h => (by cases h), fun _ _ h => (by cases h), fun _ _ _ _ h => (by cases h), fun i hi => absurd (Tr.get_nil i) hi, fun _ _ _ h => (by cases h), Nat.le_refl _, fun _ _ h => (by cases h)⟩
  refine ((runQ_sound (extOk _) (by kernel_rfl) (OrcOk.none _) 1000000).call 3 _ _ _ _ _ hσ _ #[.int .i64 a0, .int .i64 a1] W hl hw).mono fun e W' he => ?_
  obtain ⟨m', v', rfl, hv, hp⟩ := he
  cases hv
  exact ⟨rfl, hp.kp.os, hp.kp.tape, hp.kp.output, hp.kp.size, fun k hk => hp.kp.block k hk fun i im h _ => by cases h⟩
theorem rg [Lane] (hx : Lane.x = 0) {n : Nat} (h1 : 1 ≤ n) (h2 : n ≤ 20) : VR (fun _ => none) (.rng [(.ofNat 1, .ofNat 20)]) (.int .i64 (.ofNat n)) :=
  .rng (lo := .ofNat 1) (hi := .ofNat 20) (by rw [hx]; rfl) (Int.ofNat_le.2 h1) (Int.ofNat_le.2 h2)
end Go.Proofs.YtljmgfddeplamaaGreatDoor.filesReads
