/- TopSearch: the evaluator's run. -/
import Derived.Test.YtphahhnenmipeaaGreatDoorEvTopSearchCut0
import Derived.Test.YtphahhnenmipeaaGreatDoorEvTopSearchCut1
import Derived.Test.YtphahhnenmipeaaGreatDoorEvTopSearchCut2
import Derived.Test.YtphahhnenmipeaaGreatDoorEvTopSearchCut3
import Derived.Test.YtphahhnenmipeaaGreatDoorEvTopSearchCut4
import Derived.Test.YtphahhnenmipeaaGreatDoorEvOrc
import Derived.Test.YtphahhnenmipeaaGreatDoorEvBegun
import Derived.Test.YtphahhnenmipeaaGreatDoorEvSmall
import Derived.Test.YtphahhnenmipeaaGreatDoorRows
import Derived.KernelRfl
namespace Go.Proofs.YtphahhnenmipeaaGreatDoor.topSearch
open Go.YtphahhnenmipeaaGreatDoorEv
set_option maxRecDepth 100000
def isTrue : Res → Bool
  | .done (.bool true) _ => true
  | _ => false
theorem isTrue_done {r : Res} (h : isTrue r = true) : ∃ σ, r = .done (.bool true) σ := by
  unfold isTrue at h
  split at h
  · exact ⟨_, rfl⟩
  · cases h
noncomputable def tst (W : World) (ar : List SV) : Bool := isTrue (runQ Tryz.prog (c23.or (c22.or (c21.or (c20.or (c19.or (c18.or (c17.or (c16.or (c15.or (c14.or (c13.or (c12.or (c11.or (c10.or (c9.or (c8.or (c7.or (c6.or (c5.or (c4.or (c3.or (c2.or (c1.or (c0.or ((orcRes 7).or ((orcTrue 21).or evOrc.orc)))))))))))))))))))))))))) 1000000 (.call 4 ar) ⟨.nil, []⟩ ⟨Tryz.prog.globals.size, .nil, some (W, ⟨[2, 3], tabs⟩)⟩)
noncomputable def tsts (W : World) : List (List SV) → Bool
  | [] => true
  | a :: l => tst W a && tsts W l
theorem tsts_cons {W : World} {a : List SV} {l : List (List SV)} (h : tsts W (a :: l) = true) : tst W a = true ∧ tsts W l = true := by
  unfold tsts at h
  exact Bool.and_eq_true_iff.1 h
end Go.Proofs.YtphahhnenmipeaaGreatDoor.topSearch
