/- TopStream: the evaluator's run. -/
import Derived.Test.YtjkjkhfmalgenaaGreatDoorEvTopStreamFrT
import Derived.Test.YtjkjkhfmalgenaaGreatDoorEvOrc
import Derived.Test.YtjkjkhfmalgenaaGreatDoorEvBegun
import Derived.Test.YtjkjkhfmalgenaaGreatDoorEvSum
import Derived.Test.YtjkjkhfmalgenaaGreatDoorEvSmall
import Derived.Test.YtjkjkhfmalgenaaGreatDoorRows
import Derived.KernelRfl
namespace Go.Proofs.YtjkjkhfmalgenaaGreatDoor.topStream
open Go.YtjkjkhfmalgenaaGreatDoorEv
set_option maxRecDepth 100000
def isTrue : Res → Bool
  | .done (.bool true) _ => true
  | _ => false
theorem isTrue_done {r : Res} (h : isTrue r = true) : ∃ σ, r = .done (.bool true) σ := by
  unfold isTrue at h
  split at h
  · exact ⟨_, rfl⟩
  · cases h
noncomputable def tst (W : World) (ar : List SV) : Bool := isTrue (runQ Tryz.prog ((orcTreeF trF).or ((orcLan 5).or ((orcRes 5).or ((orcSum 164).or ((orcTrue 16).or evOrc.orc))))) 1000000 (.call 3 ar) ⟨.nil, []⟩ ⟨Tryz.prog.globals.size, .nil, some (W, ⟨[2, 3], tabs⟩)⟩)
noncomputable def tsts (W : World) : List (List SV) → Bool
  | [] => true
  | a :: l => tst W a && tsts W l
theorem tsts_cons {W : World} {a : List SV} {l : List (List SV)} (h : tsts W (a :: l) = true) : tst W a = true ∧ tsts W l = true := by
  unfold tsts at h
  exact Bool.and_eq_true_iff.1 h
end Go.Proofs.YtjkjkhfmalgenaaGreatDoor.topStream
