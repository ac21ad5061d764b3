/- TopReload: the evaluator's run. -/
import Derived.Test.YtgijbobfiocopaaGreatDoorEvTopReloadFrT
import Derived.Test.YtgijbobfiocopaaGreatDoorEvOrc
import Derived.Test.YtgijbobfiocopaaGreatDoorEvBegun
import Derived.Test.YtgijbobfiocopaaGreatDoorEvSum
import Derived.Test.YtgijbobfiocopaaGreatDoorEvSmall
import Derived.Test.YtgijbobfiocopaaGreatDoorRows
import Derived.KernelRfl
namespace Go.Proofs.YtgijbobfiocopaaGreatDoor.topReload
open Go.YtgijbobfiocopaaGreatDoorEv
set_option maxRecDepth 100000
def isTrue : Res → Bool
  | .done (.bool true) _ => true
  | _ => false
theorem isTrue_done {r : Res} (h : isTrue r = true) : ∃ σ, r = .done (.bool true) σ := by
  unfold isTrue at h
  split at h
  · exact ⟨_, rfl⟩
  · cases h
noncomputable def tst (W : World) (ar : List SV) : Bool := isTrue (runQ Tryz.prog ((orcTreeF trF).or ((orcLan 6).or ((orcSum 184).or ((orcTrue 20).or evOrc.orc)))) 1000000 (.call 4 ar) ⟨.nil, []⟩ ⟨Tryz.prog.globals.size, .nil, some (W, ⟨[4, 5], tabs⟩)⟩)
noncomputable def tsts (W : World) : List (List SV) → Bool
  | [] => true
  | a :: l => tst W a && tsts W l
theorem tsts_cons {W : World} {a : List SV} {l : List (List SV)} (h : tsts W (a :: l) = true) : tst W a = true ∧ tsts W l = true := by
  unfold tsts at h
  exact Bool.and_eq_true_iff.1 h
end Go.Proofs.YtgijbobfiocopaaGreatDoor.topReload
