/- ClientBad: the evaluator's run. -/
import Derived.Test.YtjighphlkcedhaaDoorEvArg
import Derived.Test.YtjighphlkcedhaaDoorEvBegun
import Derived.Test.YtjighphlkcedhaaDoorRows
import Derived.KernelRfl
namespace Go.Proofs.YtjighphlkcedhaaDoor.clientBad
open Go.YtjighphlkcedhaaDoorEv
set_option maxRecDepth 100000
def isTrue : Res → Bool
  | .done (.bool true) _ => true
  | _ => false
theorem isTrue_done {r : Res} (h : isTrue r = true) : ∃ σ, r = .done (.bool true) σ := by
  unfold isTrue at h
  split at h
  · exact ⟨_, rfl⟩
  · cases h
noncomputable def tst (n len c ty : Nat) (x : Nat → Int) : Bool := isTrue (runQ Tryd.prog (orcTrue 4) 1000000 (.call 3 [.slice Tryd.prog.globals.size 0 len (.ex c)]) ⟨.nil, []⟩ (byteMem Tryd.prog.globals.size ty n x))
noncomputable def tnil : Bool := isTrue (runQ Tryd.prog (orcTrue 4) 1000000 (.call 3 [.nilSlice]) ⟨.nil, []⟩ ⟨Tryd.prog.globals.size, .nil, none⟩)
end Go.Proofs.YtjighphlkcedhaaDoor.clientBad
