/- TopUncached: the closed facts of its row. -/
import Derived.Test.YtomboeilpmhheaaGreatDoorEvTopUncachedFacts0
import Derived.Test.YtomboeilpmhheaaGreatDoorEvTopUncachedFacts1
import Derived.Test.YtomboeilpmhheaaGreatDoorEvTopUncachedFacts2
import Derived.Test.YtomboeilpmhheaaGreatDoorEvTopUncachedFacts3
import Derived.Test.YtomboeilpmhheaaGreatDoorEvTopUncachedFacts4
import Derived.Test.YtomboeilpmhheaaGreatDoorRows
import Derived.JoinedOf
import Derived.SevenTiedAt
import Derived.KernelRfl
namespace Go.Proofs.YtomboeilpmhheaaGreatDoor.topUncached
open Go
set_option maxRecDepth 100000
theorem closed : joinedFacts Tryz.prog 6 Tryz.f6 Rows.topUncachedSpec Rows.topUncachedRow = true := by
  unfold joinedFacts
  simp only [Bool.and_eq_true]
  exact ⟨⟨⟨⟨⟨⟨⟨⟨⟨⟨⟨⟨⟨⟨⟨⟨⟨⟨⟨⟨⟨⟨⟨⟨⟨⟨⟨⟨⟨⟨⟨k0, k1⟩, k2⟩, k3⟩, k4⟩, k5⟩, k6⟩, k7⟩, k8⟩, k9⟩, k10⟩, k11⟩, k12⟩, k13⟩, k14⟩, k15⟩, k16⟩, k17⟩, k18⟩, k19⟩, k20⟩, k21⟩, k22⟩, k23⟩, k24⟩, k25⟩, k26⟩, k27⟩, k28⟩, k29⟩, k30⟩, k31⟩
end Go.Proofs.YtomboeilpmhheaaGreatDoor.topUncached
