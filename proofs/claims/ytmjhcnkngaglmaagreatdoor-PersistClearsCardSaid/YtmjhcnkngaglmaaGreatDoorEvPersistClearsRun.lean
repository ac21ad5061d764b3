/- PersistClears: the evaluator's run. -/
import Derived.Test.YtmjhcnkngaglmaaGreatDoorEvPersistClearsCut0
import Derived.Test.YtmjhcnkngaglmaaGreatDoorEvPersistClearsCut1
import Derived.Test.YtmjhcnkngaglmaaGreatDoorEvPersistClearsCut2
import Derived.Test.YtmjhcnkngaglmaaGreatDoorEvPersistClearsCut3
import Derived.Test.YtmjhcnkngaglmaaGreatDoorEvPersistClearsCut4
import Derived.Test.YtmjhcnkngaglmaaGreatDoorEvPersistClearsCut5
import Derived.Test.YtmjhcnkngaglmaaGreatDoorEvPersistClearsCut6
import Derived.Test.YtmjhcnkngaglmaaGreatDoorEvPersistClearsCut7
import Derived.Test.YtmjhcnkngaglmaaGreatDoorEvPersistClearsCut8
import Derived.Test.YtmjhcnkngaglmaaGreatDoorEvPersistClearsCut9
import Derived.Test.YtmjhcnkngaglmaaGreatDoorEvPersistClearsCut10
import Derived.Test.YtmjhcnkngaglmaaGreatDoorEvPersistClearsCut11
import Derived.Test.YtmjhcnkngaglmaaGreatDoorEv20
import Derived.Test.YtmjhcnkngaglmaaGreatDoorEvBegun
import Derived.Test.YtmjhcnkngaglmaaGreatDoorEvSum
import Derived.Test.YtmjhcnkngaglmaaGreatDoorRows
import Derived.KernelRfl
namespace Go.Proofs.YtmjhcnkngaglmaaGreatDoor.persistClears
open Go.YtmjhcnkngaglmaaGreatDoorEv
set_option maxRecDepth 100000
def isTrue : Res → Bool
  | .done (.bool true) _ => true
  | _ => false
theorem isTrue_done {r : Res} (h : isTrue r = true) : ∃ σ, r = .done (.bool true) σ := by
  unfold isTrue at h
  split at h
  · exact ⟨_, rfl⟩
  · cases h
noncomputable def tst (ar : List SV) : Bool := isTrue (runQ Tryz.prog (c160.or (c158.or (c156.or (c155.or (c154.or (c152.or (c151.or (c149.or (c147.or (c146.or (c144.or (c142.or (c141.or (c140.or (c138.or (c136.or (c135.or (c134.or (c132.or (c131.or (c129.or (c127.or (c126.or (c124.or (c122.or (c121.or (c120.or (c118.or (c116.or (c115.or (c114.or (c112.or (c111.or (c109.or (c107.or (c106.or (c104.or (c102.or (c101.or (c100.or (c99.or (c98.or (c97.or (c96.or (c95.or (c94.or (c93.or (c92.or (c91.or (c90.or (c88.or (c87.or (c86.or (c85.or (c84.or (c83.or (c82.or (c81.or (c80.or (c79.or (c78.or (c77.or (c76.or (c75.or (c74.or (c73.or (c72.or (c71.or (c70.or (c69.or (c68.or (c67.or (c66.or (c65.or (c64.or (c63.or (c62.or (c61.or (c60.or (c59.or (c58.or (c57.or (c56.or (c55.or (c54.or (c53.or (c52.or (c51.or (c50.or (c49.or (c48.or (c47.or (c46.or (c45.or (c44.or (c43.or (c42.or (c41.or (c40.or (c39.or (c38.or (c37.or (c36.or (c35.or (c34.or (c33.or (c32.or (c31.or (c30.or (c29.or (c28.or (c27.or (c26.or (c25.or (c24.or (c23.or (c22.or (c21.or (c20.or (c19.or (c18.or (c17.or (c16.or (c15.or (c14.or (c13.or (c12.or (c11.or (c10.or (c9.or (c8.or (c7.or (c6.or (c5.or (c4.or (c3.or (c2.or (c1.or (c0.or ((orcSum 66).or (orcTrue 10))))))))))))))))))))))))))))))))))))))))))))))))))))))))))))))))))))))))))))))))))))))))))))))))))))))))))))))))))))))))))))))))))))))))))))) 1000000 (.call 4 ar) ⟨.nil, []⟩ ⟨Tryz.prog.globals.size, .nil, none⟩)
noncomputable def tsts : List (List SV) → Bool
  | [] => true
  | a :: l => tst a && tsts l
theorem tsts_cons {a : List SV} {l : List (List SV)} (h : tsts (a :: l) = true) : tst a = true ∧ tsts l = true := by
  unfold tsts at h
  exact Bool.and_eq_true_iff.1 h
end Go.Proofs.YtmjhcnkngaglmaaGreatDoor.persistClears
