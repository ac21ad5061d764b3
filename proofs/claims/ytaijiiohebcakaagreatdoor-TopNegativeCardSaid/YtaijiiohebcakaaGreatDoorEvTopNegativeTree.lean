/- TopNegative: its pieces. -/
import Derived.Test.YtaijiiohebcakaaGreatDoorEvTopNegativeLit
import Derived.Test.YtaijiiohebcakaaGreatDoorEvTopNegativeCut0
import Derived.Test.YtaijiiohebcakaaGreatDoorEvTopNegativeCut1
import Derived.Test.YtaijiiohebcakaaGreatDoorEvTopNegativeCut2
namespace Go.Proofs.YtaijiiohebcakaaGreatDoor.topNegative
open Go.YtaijiiohebcakaaGreatDoorEv
set_option maxRecDepth 100000
noncomputable def tr_ : OT := (.node 389 [c2, c34] (.node 232 [c1] (.node 9 [c0] .leaf .leaf) .leaf) (.node 817 [c4, c5, c6, c7, c8, c9, c10, c11, c12, c13, c14, c15, c16, c17, c18, c19, c20, c21, c22, c23, c24, c25, c26, c27, c28, c29, c30, c31, c32, c33] (.node 527 [c3, c35] .leaf .leaf) .leaf))
theorem trok_ : OT.Oks Tryz.prog tr_ := ⟨⟨ok_c2, ⟨ok_c34, trivial⟩⟩, ⟨⟨ok_c1, trivial⟩, ⟨⟨ok_c0, trivial⟩, trivial, trivial⟩, trivial⟩, ⟨⟨ok_c4, ⟨ok_c5, ⟨ok_c6, ⟨ok_c7, ⟨ok_c8, ⟨ok_c9, ⟨ok_c10, ⟨ok_c11, ⟨ok_c12, ⟨ok_c13, ⟨ok_c14, ⟨ok_c15, ⟨ok_c16, ⟨ok_c17, ⟨ok_c18, ⟨ok_c19, ⟨ok_c20, ⟨ok_c21, ⟨ok_c22, ⟨ok_c23, ⟨ok_c24, ⟨ok_c25, ⟨ok_c26, ⟨ok_c27, ⟨ok_c28, ⟨ok_c29, ⟨ok_c30, ⟨ok_c31, ⟨ok_c32, ⟨ok_c33, trivial⟩⟩⟩⟩⟩⟩⟩⟩⟩⟩⟩⟩⟩⟩⟩⟩⟩⟩⟩⟩⟩⟩⟩⟩⟩⟩⟩⟩⟩⟩, ⟨⟨ok_c3, ⟨ok_c35, trivial⟩⟩, trivial, trivial⟩, trivial⟩⟩
end Go.Proofs.YtaijiiohebcakaaGreatDoor.topNegative
