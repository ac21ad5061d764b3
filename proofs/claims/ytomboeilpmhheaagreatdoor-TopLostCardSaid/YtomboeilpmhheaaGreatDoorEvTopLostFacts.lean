/- TopLost: the closed facts of its row. -/
import Derived.Test.YtomboeilpmhheaaGreatDoorEvTopLostFacts0
import Derived.Test.YtomboeilpmhheaaGreatDoorEvTopLostFacts1
import Derived.Test.YtomboeilpmhheaaGreatDoorEvTopLostFacts2
import Derived.Test.YtomboeilpmhheaaGreatDoorEvTopLostFacts3
import Derived.Test.YtomboeilpmhheaaGreatDoorEvTopLostFacts4
import Derived.Test.YtomboeilpmhheaaGreatDoorRows
import Derived.JoinedOf
import Derived.SevenTiedAt
import Derived.KernelRfl
namespace Go.Proofs.YtomboeilpmhheaaGreatDoor.topLost
open Go
set_option maxRecDepth 100000
theorem closed : joinedFacts Tryz.prog 5 Tryz.f5 Rows.topLostSpec Rows.topLostRow = true := by
  unfold joinedFacts
  simp only [Bool.and_eq_true]
  exact ⟨⟨⟨⟨⟨⟨⟨⟨⟨⟨⟨⟨⟨⟨⟨⟨⟨⟨⟨⟨⟨⟨⟨⟨⟨⟨⟨⟨⟨⟨⟨k0, k1⟩, k2⟩, k3⟩, k4⟩, k5⟩, k6⟩, k7⟩, k8⟩, k9⟩, k10⟩, k11⟩, k12⟩, k13⟩, k14⟩, k15⟩, k16⟩, k17⟩, k18⟩, k19⟩, k20⟩, k21⟩, k22⟩, k23⟩, k24⟩, k25⟩, k26⟩, k27⟩, k28⟩, k29⟩, k30⟩, k31⟩
end Go.Proofs.YtomboeilpmhheaaGreatDoor.topLost
