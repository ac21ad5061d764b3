/- DaemonBusy: the closed facts of its row. -/
import Derived.Test.YtalicejiohfmfaaGreatDoorEvDaemonBusyFacts0
import Derived.Test.YtalicejiohfmfaaGreatDoorEvDaemonBusyFacts1
import Derived.Test.YtalicejiohfmfaaGreatDoorEvDaemonBusyFacts2
import Derived.Test.YtalicejiohfmfaaGreatDoorEvDaemonBusyFacts3
import Derived.Test.YtalicejiohfmfaaGreatDoorEvDaemonBusyFacts4
import Derived.Test.YtalicejiohfmfaaGreatDoorEvDaemonBusyFacts5
import Derived.Test.YtalicejiohfmfaaGreatDoorRows
import Derived.JoinedOf
import Derived.SevenTiedAt
import Derived.KernelRfl
namespace Go.Proofs.YtalicejiohfmfaaGreatDoor.daemonBusy
open Go
set_option maxRecDepth 100000
theorem closed : joinedFacts Tryz.prog 3 Tryz.f3 Rows.daemonBusySpec Rows.daemonBusyRow = true := by
  unfold joinedFacts
  simp only [Bool.and_eq_true]
  exact ⟨⟨⟨⟨⟨⟨⟨⟨⟨⟨⟨⟨⟨⟨⟨⟨⟨⟨⟨⟨⟨⟨⟨⟨⟨⟨⟨⟨⟨⟨⟨k0, k1⟩, k2⟩, k3⟩, k4⟩, k5⟩, k6⟩, k7⟩, k8⟩, k9⟩, k10⟩, k11⟩, k12⟩, k13⟩, k14⟩, k15⟩, k16⟩, k17⟩, k18⟩, k19⟩, k20⟩, k21⟩, k22⟩, k23⟩, k24⟩, k25⟩, k26⟩, k27⟩, k28⟩, k29⟩, k30⟩, k31⟩
theorem goes_of_none {P : Program} (h : P.funcs.any Func.goes = false) (f : FuncId) : P.goes f = false := by
  have h1 : ∀ g : FuncId, (P.funcs[g]?).any Func.goes = false := by
    intro g
    cases hg : P.funcs[g]? with
    | none => rfl
    | some fn =>
      have hm := Array.mem_of_getElem? hg
      have h' := Array.any_eq_false'.1 h fn hm
      simpa using h'
  unfold Program.goes
  rw [h, Bool.and_false, Bool.or_false]
  rw [List.any_eq_false]
  intro g _
  rw [h1 g]; simp
theorem goesBy_of_none {P : Program} {c : OpenClaim} (hs : c.start = .entering) (h : P.funcs.any Func.goes = false) : false = c.goesBy P := by
  unfold OpenClaim.goesBy Program.goesAt Program.goesFrom
  rw [hs]
  cases P.funcNamed c.func with
  | none => rfl
  | some f =>
    have := goes_of_none h f
    simp [this]
theorem goes : false = Rows.daemonBusyRow.goesBy Tryz.prog := goesBy_of_none rfl noGo
end Go.Proofs.YtalicejiohfmfaaGreatDoor.daemonBusy
