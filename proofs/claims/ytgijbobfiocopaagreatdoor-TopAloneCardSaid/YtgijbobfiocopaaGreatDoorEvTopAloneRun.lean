/- TopAlone: the evaluator's run. -/
import Derived.Test.YtgijbobfiocopaaGreatDoorEvOrc
import Derived.Test.YtgijbobfiocopaaGreatDoorEvBegun
import Derived.Test.YtgijbobfiocopaaGreatDoorEvSmall
import Derived.Test.YtgijbobfiocopaaGreatDoorRows
import Derived.KernelRfl
namespace Go.Proofs.YtgijbobfiocopaaGreatDoor.topAlone
open Go.YtgijbobfiocopaaGreatDoorEv
set_option maxRecDepth 100000
def isTrue : Res → Bool
  | .done (.bool true) _ => true
  | _ => false
theorem isTrue_done {r : Res} (h : isTrue r = true) : ∃ σ, r = .done (.bool true) σ := by
  unfold isTrue at h
  split at h
  · exact ⟨_, rfl⟩
  · cases h
noncomputable def tab6 : List SV := ([0, 1, 28, 2, 29, 14, 24, 3, 30, 22, 20, 15, 25, 17, 4, 8, 31, 27, 13, 23, 21, 19, 16, 7, 26, 12, 18, 6, 11, 5, 10, 9] : List Int).map (SV.int .u8)
noncomputable def tab7 : List SV := ([0, 1, 56, 2, 57, 49, 28, 3, 61, 58, 42, 50, 38, 29, 17, 4, 62, 47, 59, 36, 45, 43, 51, 22, 53, 39, 33, 30, 24, 18, 12, 5, 63, 55, 48, 27, 60, 41, 37, 16, 46, 35, 44, 21, 52, 32, 23, 11, 54, 26, 40, 15, 34, 20, 31, 10, 25, 14, 19, 9, 13, 8, 7, 6] : List Int).map (SV.int .u8)
noncomputable def tab1 : List SV := ([1, 10, 100, 1000, 10000, 100000, 1000000, 10000000, 100000000, 1000000000, 10000000000, 100000000000, 1000000000000, 10000000000000, 100000000000000, 1000000000000000, 10000000000000000, 100000000000000000, 1000000000000000000, 10000000000000000000] : List Int).map (SV.int .u64)
noncomputable def tabs : List (Nat × List SV) := [(6, tab6), (7, tab7), (1, tab1)]
noncomputable def tst (W : World) (ar : List SV) : Bool := isTrue (runQ Tryz.prog ((orcLan 6).or ((orcTrue 20).or evOrc.orc)) 1000000 (.call 3 ar) ⟨.nil, []⟩ ⟨Tryz.prog.globals.size, .nil, some (W, ⟨[4, 5], tabs⟩)⟩)
noncomputable def tsts (W : World) : List (List SV) → Bool
  | [] => true
  | a :: l => tst W a && tsts W l
theorem tsts_cons {W : World} {a : List SV} {l : List (List SV)} (h : tsts W (a :: l) = true) : tst W a = true ∧ tsts W l = true := by
  unfold tsts at h
  exact Bool.and_eq_true_iff.1 h
end Go.Proofs.YtgijbobfiocopaaGreatDoor.topAlone
