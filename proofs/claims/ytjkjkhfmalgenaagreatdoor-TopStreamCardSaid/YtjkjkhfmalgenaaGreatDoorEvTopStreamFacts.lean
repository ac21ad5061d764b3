/- TopStream: the closed facts of its row. -/
import Derived.Test.YtjkjkhfmalgenaaGreatDoorEvTopStreamFacts0
import Derived.Test.YtjkjkhfmalgenaaGreatDoorEvTopStreamFacts1
import Derived.Test.YtjkjkhfmalgenaaGreatDoorEvTopStreamFacts2
import Derived.Test.YtjkjkhfmalgenaaGreatDoorEvTopStreamFacts3
import Derived.Test.YtjkjkhfmalgenaaGreatDoorEvTopStreamFacts4
import Derived.Test.YtjkjkhfmalgenaaGreatDoorRows
import Derived.JoinedOf
import Derived.SevenTiedAt
import Derived.KernelRfl
namespace Go.Proofs.YtjkjkhfmalgenaaGreatDoor.topStream
open Go
set_option maxRecDepth 100000
theorem noGo : Tryz.prog.funcs.any Func.goes = false := by kernel_rfl
theorem closed : joinedFacts Tryz.prog 3 Tryz.f3 Rows.topStreamSpec Rows.topStreamRow = true := by
  unfold joinedFacts
  simp only [Bool.and_eq_true]
  exact ⟨⟨⟨⟨⟨⟨⟨⟨⟨⟨⟨⟨⟨⟨⟨⟨⟨⟨⟨⟨⟨⟨⟨⟨⟨⟨⟨⟨⟨⟨⟨k0, k1⟩, k2⟩, k3⟩, k4⟩, k5⟩, k6⟩, k7⟩, k8⟩, k9⟩, k10⟩, k11⟩, k12⟩, k13⟩, k14⟩, k15⟩, k16⟩, k17⟩, k18⟩, k19⟩, k20⟩, k21⟩, k22⟩, k23⟩, k24⟩, k25⟩, k26⟩, k27⟩, k28⟩, k29⟩, k30⟩, k31⟩
theorem goes_of_none {P : Program} (h : P.funcs.any Func.goes = false) (f : FuncId) : P.goes f = false := by
  have h1 : ∀ g : FuncId, (P.funcs[g]?).any Func.goes = false := by
    intro g
    cases hg : P.funcs[g]? with
    | none => rfl
    | some fn =>
      have hm := Array.mem_of_getElem? hg
      have h' := Array.any_eq_false'.1 h fn hm
      simpa using h'
  unfold Program.goes
  rw [h, Bool.and_false, Bool.or_false]
  rw [List.any_eq_false]
  intro g _
  rw [h1 g]; simp
theorem goesBy_of_none {P : Program} {c : OpenClaim} (hs : c.start = .entering) (h : P.funcs.any Func.goes = false) : false = c.goesBy P := by
  unfold OpenClaim.goesBy Program.goesAt Program.goesFrom
  rw [hs]
  cases P.funcNamed c.func with
  | none => rfl
  | some f =>
    have := goes_of_none h f
    simp [this]
theorem goes : false = Rows.topStreamRow.goesBy Tryz.prog := goesBy_of_none rfl noGo
end Go.Proofs.YtjkjkhfmalgenaaGreatDoor.topStream
