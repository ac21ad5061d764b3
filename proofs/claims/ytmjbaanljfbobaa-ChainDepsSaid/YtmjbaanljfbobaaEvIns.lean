/- slices.Insert of an element ahead of the only one: in place or in a new row, it comes to the same. -/
import Derived.Test.YtmjbaanljfbobaaEv29
import Derived.Test.YtmjbaanljfbobaaChecked
import Derived.KernelRfl
namespace Go.Proofs.Ytmjbaanljfbobaa.evIns
open Go Go.RowKit Go.YtmjbaanljfbobaaEv
set_option maxRecDepth 100000
set_option linter.unusedVariables false
noncomputable def X : List SV := [.str 3 7105633, .int .i64 (.ofNat 0)]
noncomputable def V : List SV := [.str 1 97, .int .i64 (.ofNat 7)]
noncomputable def ih : Job → Fr → St → Res := runQ Try.prog Orc.none 1000000
noncomputable def F : FD := insF 1 31 3 4 X V
noncomputable def orc : Orc := orcFr 1 none 39 (insArgs 1 (.op 2)) F (.slice 3 0 2 (.op 2))
theorem hG : Try.prog.globals.size = 1 := by kernel_rfl
theorem hF : F.ok Try.prog.globals.size = true := by kernel_rfl
theorem h1 : pieceOk (.slice 3 0 2 (.op 2)) F.K (ih (.call 39 (insArgs 1 (.ex 1))) ⟨.nil, []⟩ ((insA 1 31 X V).st none)) = true := by kernel_rfl
theorem h2 (k : Nat) : roomOk 1 31 X V (ih (.call 39 (insArgs 1 (.ex (k + 2)))) ⟨.nil, []⟩ ((insB 1 31 X V).st none)) = true := by kernel_rfl
theorem h3 (k : Nat) : resV1 (ih (.call 39 (insArgs 1 (.ex (k + 2)))) ⟨.nil, []⟩ ((insB 1 31 X V).st none)) = some (.slice 1 0 2 (.ex (k + 2))) := by kernel_rfl
theorem hK : F.K.inn (F.K.st none) = true := by kernel_rfl
theorem hA : (insA 1 31 X V).inn ((insA 1 31 X V).st none) = true := by kernel_rfl
variable [Lane]
theorem flat : ∀ u ∈ V ++ X, ∀ (m m' : Mp) (v' : Value), VR m u v' → VR m' u v' := by
  intro u hu
  simp only [V, X, List.cons_append, List.nil_append, List.mem_cons, List.mem_nil_iff, or_false] at hu
  rcases hu with rfl | rfl | rfl | rfl
  · intro m m' v' h; cases h with | str a b => exact .str a b
  · intro m m' v' h; cases h; exact .int ..
  · intro m m' v' h; cases h with | str a b => exact .str a b
  · intro m m' v' h; cases h; exact .int ..
theorem ok : OrcOk Try.prog orc := by
  have := orcFr_of (P := Try.prog) (Gh := none) (f0 := 39) (args0 := insArgs 1 (.op 2)) (F := F) (v0 := .slice 3 0 2 (.op 2)) hF fun g ⟨W, hg⟩ => by
    subst hg
    exact ins_ok (runQ_sound (extOk _) (by kernel_rfl) (OrcOk.none _) 1000000) hG rfl rfl flat (by omega) (by omega) none h1 h2 h3 hK hA
  rwa [hG] at this
end Go.Proofs.Ytmjbaanljfbobaa.evIns
