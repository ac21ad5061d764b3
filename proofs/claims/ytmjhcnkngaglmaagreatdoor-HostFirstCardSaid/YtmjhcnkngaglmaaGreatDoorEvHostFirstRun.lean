/- HostFirst: the evaluator's run. -/
import Derived.Test.YtmjhcnkngaglmaaGreatDoorEvHostFirstCut0
import Derived.Test.YtmjhcnkngaglmaaGreatDoorEvHostFirstCut1
import Derived.Test.YtmjhcnkngaglmaaGreatDoorEvHostFirstCut2
import Derived.Test.YtmjhcnkngaglmaaGreatDoorEvHostFirstCut3
import Derived.Test.YtmjhcnkngaglmaaGreatDoorEvHostFirstCut4
import Derived.Test.YtmjhcnkngaglmaaGreatDoorEvHostFirstCut5
import Derived.Test.YtmjhcnkngaglmaaGreatDoorEvHostFirstCut6
import Derived.Test.YtmjhcnkngaglmaaGreatDoorEvHostFirstCut7
import Derived.Test.YtmjhcnkngaglmaaGreatDoorEvHostFirstCut8
import Derived.Test.YtmjhcnkngaglmaaGreatDoorEvHostFirstCut9
import Derived.Test.YtmjhcnkngaglmaaGreatDoorEvHostFirstCut10
import Derived.Test.YtmjhcnkngaglmaaGreatDoorEvHostFirstCut11
import Derived.Test.YtmjhcnkngaglmaaGreatDoorEvHostFirstCut12
import Derived.Test.YtmjhcnkngaglmaaGreatDoorEvHostFirstCut13
import Derived.Test.YtmjhcnkngaglmaaGreatDoorEvHostFirstCut14
import Derived.Test.YtmjhcnkngaglmaaGreatDoorEvHostFirstCut15
import Derived.Test.YtmjhcnkngaglmaaGreatDoorEvHostFirstCut16
import Derived.Test.YtmjhcnkngaglmaaGreatDoorEvHostFirstCut17
import Derived.Test.YtmjhcnkngaglmaaGreatDoorEvOrc
import Derived.Test.YtmjhcnkngaglmaaGreatDoorRows
import Derived.KernelRfl
namespace Go.Proofs.YtmjhcnkngaglmaaGreatDoor.hostFirst
open Go.YtmjhcnkngaglmaaGreatDoorEv
set_option maxRecDepth 100000
def isTrue : Res → Bool
  | .done (.bool true) _ => true
  | _ => false
theorem isTrue_done {r : Res} (h : isTrue r = true) : ∃ σ, r = .done (.bool true) σ := by
  unfold isTrue at h
  split at h
  · exact ⟨_, rfl⟩
  · cases h
noncomputable def tst (W : World) (ar : List SV) : Bool := isTrue (runQ Tryz.prog (c31.or (c29.or (c27.or (c25.or (c23.or (c21.or (c19.or (c17.or (c15.or (c13.or (c11.or (c9.or (c7.or (c5.or (c3.or (c1.or (c0.or evOrc.orc))))))))))))))))) 1000000 (.call 3 ar) ⟨.nil, []⟩ ⟨Tryz.prog.globals.size, .nil, some (W, ⟨[1, 2], tabs⟩)⟩)
noncomputable def tsts (W : World) : List (List SV) → Bool
  | [] => true
  | a :: l => tst W a && tsts W l
theorem tsts_cons {W : World} {a : List SV} {l : List (List SV)} (h : tsts W (a :: l) = true) : tst W a = true ∧ tsts W l = true := by
  unfold tsts at h
  exact Bool.and_eq_true_iff.1 h
end Go.Proofs.YtmjhcnkngaglmaaGreatDoor.hostFirst
