/- TopReload: its pieces. -/
import Derived.Test.YtgijbobfiocopaaGreatDoorEvTopReloadFr
import Derived.Test.YtgijbobfiocopaaGreatDoorEvTopReloadFrC0
import Derived.Test.YtgijbobfiocopaaGreatDoorEvTopReloadFrC1
import Derived.Test.YtgijbobfiocopaaGreatDoorEvTopReloadFrC2
import Derived.Test.YtgijbobfiocopaaGreatDoorEvTopReloadFrC3
import Derived.Test.YtgijbobfiocopaaGreatDoorEvTopReloadFrC4
namespace Go.Proofs.YtgijbobfiocopaaGreatDoor.topReload
open Go.YtgijbobfiocopaaGreatDoorEv
set_option linter.unusedSectionVars false
variable [Lane]
set_option maxRecDepth 100000
noncomputable def trF : OT := (.node 86 [f50_] (.node 28 [f1_] (.node 16 [f10_, f16_, f19_, f22_, f23_, f24_, f29_, f32_, f34_, f39_, f46_, f60_, f61_, f62_] (.node 15 [f30_, f31_, f33_, f35_, f36_, f40_, f41_, f42_, f44_, f45_, f47_, f48_, f49_, f51_, f52_, f53_, f54_, f55_] (.node 7 [f43_, f56_, f57_, f58_, f59_] .leaf .leaf) .leaf) (.node 21 [f25_] .leaf .leaf)) (.node 62 [f8_] (.node 29 [f0_] .leaf .leaf) (.node 72 [f4_] .leaf .leaf))) (.node 172 [f6_, f13_, f15_, f18_, f21_] (.node 126 [f28_] (.node 125 [f5_, f12_, f14_, f17_, f20_] (.node 95 [f3_, f38_] .leaf .leaf) .leaf) (.node 131 [f11_, f26_, f37_] .leaf .leaf)) (.node 191 [f2_] (.node 173 [f9_, f27_] .leaf .leaf) (.node 370 [f7_] .leaf .leaf))))
theorem trFok : OT.Oks Tryz.prog trF := ⟨⟨okf50_, trivial⟩, ⟨⟨okf1_, trivial⟩, ⟨⟨okf10_, ⟨okf16_, ⟨okf19_, ⟨okf22_, ⟨okf23_, ⟨okf24_, ⟨okf29_, ⟨okf32_, ⟨okf34_, ⟨okf39_, ⟨okf46_, ⟨okf60_, ⟨okf61_, ⟨okf62_, trivial⟩⟩⟩⟩⟩⟩⟩⟩⟩⟩⟩⟩⟩⟩, ⟨⟨okf30_, ⟨okf31_, ⟨okf33_, ⟨okf35_, ⟨okf36_, ⟨okf40_, ⟨okf41_, ⟨okf42_, ⟨okf44_, ⟨okf45_, ⟨okf47_, ⟨okf48_, ⟨okf49_, ⟨okf51_, ⟨okf52_, ⟨okf53_, ⟨okf54_, ⟨okf55_, trivial⟩⟩⟩⟩⟩⟩⟩⟩⟩⟩⟩⟩⟩⟩⟩⟩⟩⟩, ⟨⟨okf43_, ⟨okf56_, ⟨okf57_, ⟨okf58_, ⟨okf59_, trivial⟩⟩⟩⟩⟩, trivial, trivial⟩, trivial⟩, ⟨⟨okf25_, trivial⟩, trivial, trivial⟩⟩, ⟨⟨okf8_, trivial⟩, ⟨⟨okf0_, trivial⟩, trivial, trivial⟩, ⟨⟨okf4_, trivial⟩, trivial, trivial⟩⟩⟩, ⟨⟨okf6_, ⟨okf13_, ⟨okf15_, ⟨okf18_, ⟨okf21_, trivial⟩⟩⟩⟩⟩, ⟨⟨okf28_, trivial⟩, ⟨⟨okf5_, ⟨okf12_, ⟨okf14_, ⟨okf17_, ⟨okf20_, trivial⟩⟩⟩⟩⟩, ⟨⟨okf3_, ⟨okf38_, trivial⟩⟩, trivial, trivial⟩, trivial⟩, ⟨⟨okf11_, ⟨okf26_, ⟨okf37_, trivial⟩⟩⟩, trivial, trivial⟩⟩, ⟨⟨okf2_, trivial⟩, ⟨⟨okf9_, ⟨okf27_, trivial⟩⟩, trivial, trivial⟩, ⟨⟨okf7_, trivial⟩, trivial, trivial⟩⟩⟩⟩
end Go.Proofs.YtgijbobfiocopaaGreatDoor.topReload
