/- TopLibrary: its pieces. -/
import Derived.Test.YtfeefnmniolncaaGreatDoorEvTopLibraryLit
import Derived.Test.YtfeefnmniolncaaGreatDoorEvTopLibraryCut0
import Derived.Test.YtfeefnmniolncaaGreatDoorEvTopLibraryCut1
namespace Go.Proofs.YtfeefnmniolncaaGreatDoor.topLibrary
open Go.YtfeefnmniolncaaGreatDoorEv
set_option linter.unusedSectionVars false
variable [Lane]
set_option maxRecDepth 100000
noncomputable def tr_ : OT := (.node 308 [c1, c3] (.node 11 [c4] (.node 10 [c0, c2] .leaf .leaf) (.node 12 [c6, c8] .leaf .leaf)) (.node 310 [c7, c9] (.node 309 [c5] .leaf .leaf) .leaf))
theorem trok_ : OT.Oks Tryz.prog tr_ := ⟨⟨ok_c1, ⟨ok_c3, trivial⟩⟩, ⟨⟨ok_c4, trivial⟩, ⟨⟨ok_c0, ⟨ok_c2, trivial⟩⟩, trivial, trivial⟩, ⟨⟨ok_c6, ⟨ok_c8, trivial⟩⟩, trivial, trivial⟩⟩, ⟨⟨ok_c7, ⟨ok_c9, trivial⟩⟩, ⟨⟨ok_c5, trivial⟩, trivial, trivial⟩, trivial⟩⟩
end Go.Proofs.YtfeefnmniolncaaGreatDoor.topLibrary
