/- ChainDeps: the evaluator's run. -/
import Derived.Test.YtmjbaanljfbobaaEv20
import Derived.Test.YtmjbaanljfbobaaEvBegun
import Derived.Test.YtmjbaanljfbobaaEvIns
import Derived.Test.YtmjbaanljfbobaaRows
import Derived.KernelRfl
namespace Go.Proofs.Ytmjbaanljfbobaa.chainDeps
open Go.YtmjbaanljfbobaaEv
set_option maxRecDepth 100000
def isTrue : Res → Bool
  | .done (.bool true) _ => true
  | _ => false
theorem isTrue_done {r : Res} (h : isTrue r = true) : ∃ σ, r = .done (.bool true) σ := by
  unfold isTrue at h
  split at h
  · exact ⟨_, rfl⟩
  · cases h
noncomputable def tst (ar : List SV) : Bool := isTrue (runQ Try.prog ((evIns.orc).or (orcTrue 4)) 1000000 (.call 3 ar) ⟨.nil, []⟩ ⟨Try.prog.globals.size, .nil, none⟩)
noncomputable def tsts : List (List SV) → Bool
  | [] => true
  | a :: l => tst a && tsts l
theorem tsts_cons {a : List SV} {l : List (List SV)} (h : tsts (a :: l) = true) : tst a = true ∧ tsts l = true := by
  unfold tsts at h
  exact Bool.and_eq_true_iff.1 h
end Go.Proofs.Ytmjbaanljfbobaa.chainDeps
