/- TopStream: its pieces. -/
import Derived.Test.YtjkjkhfmalgenaaGreatDoorEvTopStreamFr
import Derived.Test.YtjkjkhfmalgenaaGreatDoorEvTopStreamFrC0
import Derived.Test.YtjkjkhfmalgenaaGreatDoorEvTopStreamFrC1
import Derived.Test.YtjkjkhfmalgenaaGreatDoorEvTopStreamFrC2
import Derived.Test.YtjkjkhfmalgenaaGreatDoorEvTopStreamFrC3
import Derived.Test.YtjkjkhfmalgenaaGreatDoorEvTopStreamFrC4
import Derived.Test.YtjkjkhfmalgenaaGreatDoorEvTopStreamFrC5
namespace Go.Proofs.YtjkjkhfmalgenaaGreatDoor.topStream
open Go.YtjkjkhfmalgenaaGreatDoorEv
set_option linter.unusedSectionVars false
variable [Lane]
set_option maxRecDepth 100000
noncomputable def trF : OT := (.node 58 [f6_, f11_, f26_, f28_, f31_, f33_, f37_, f39_, f47_, f49_] (.node 13 [f88_, f89_, f90_, f91_, f92_, f93_, f94_, f95_, f96_, f97_] (.node 10 [f73_, f76_, f79_, f82_, f85_] (.node 7 [f50_, f57_, f61_, f65_, f69_] (.node 6 [f0_] .leaf .leaf) .leaf) (.node 12 [f53_, f59_, f63_, f67_, f71_] .leaf .leaf)) (.node 44 [f4_, f7_, f51_, f52_, f58_, f62_, f66_, f70_] (.node 40 [f55_, f75_, f78_, f81_, f84_, f87_] .leaf .leaf) (.node 46 [f54_, f74_, f77_, f80_, f83_, f86_] .leaf .leaf))) (.node 386 [f1_] (.node 88 [f2_, f9_, f24_, f29_, f35_, f45_] (.node 85 [f3_] (.node 84 [f5_, f25_, f30_, f36_, f46_] .leaf .leaf) .leaf) (.node 153 [f13_, f15_, f17_, f19_, f20_, f21_, f22_, f23_, f34_, f43_, f44_] .leaf .leaf)) (.node 446 [f56_, f60_, f64_, f68_, f72_] (.node 442 [f8_, f12_, f14_, f16_, f18_, f40_, f41_, f42_] .leaf .leaf) (.node 447 [f10_, f27_, f32_, f38_, f48_] .leaf .leaf))))
theorem trFok : OT.Oks Tryz.prog trF := ⟨⟨okf6_, ⟨okf11_, ⟨okf26_, ⟨okf28_, ⟨okf31_, ⟨okf33_, ⟨okf37_, ⟨okf39_, ⟨okf47_, ⟨okf49_, trivial⟩⟩⟩⟩⟩⟩⟩⟩⟩⟩, ⟨⟨okf88_, ⟨okf89_, ⟨okf90_, ⟨okf91_, ⟨okf92_, ⟨okf93_, ⟨okf94_, ⟨okf95_, ⟨okf96_, ⟨okf97_, trivial⟩⟩⟩⟩⟩⟩⟩⟩⟩⟩, ⟨⟨okf73_, ⟨okf76_, ⟨okf79_, ⟨okf82_, ⟨okf85_, trivial⟩⟩⟩⟩⟩, ⟨⟨okf50_, ⟨okf57_, ⟨okf61_, ⟨okf65_, ⟨okf69_, trivial⟩⟩⟩⟩⟩, ⟨⟨okf0_, trivial⟩, trivial, trivial⟩, trivial⟩, ⟨⟨okf53_, ⟨okf59_, ⟨okf63_, ⟨okf67_, ⟨okf71_, trivial⟩⟩⟩⟩⟩, trivial, trivial⟩⟩, ⟨⟨okf4_, ⟨okf7_, ⟨okf51_, ⟨okf52_, ⟨okf58_, ⟨okf62_, ⟨okf66_, ⟨okf70_, trivial⟩⟩⟩⟩⟩⟩⟩⟩, ⟨⟨okf55_, ⟨okf75_, ⟨okf78_, ⟨okf81_, ⟨okf84_, ⟨okf87_, trivial⟩⟩⟩⟩⟩⟩, trivial, trivial⟩, ⟨⟨okf54_, ⟨okf74_, ⟨okf77_, ⟨okf80_, ⟨okf83_, ⟨okf86_, trivial⟩⟩⟩⟩⟩⟩, trivial, trivial⟩⟩⟩, ⟨⟨okf1_, trivial⟩, ⟨⟨okf2_, ⟨okf9_, ⟨okf24_, ⟨okf29_, ⟨okf35_, ⟨okf45_, trivial⟩⟩⟩⟩⟩⟩, ⟨⟨okf3_, trivial⟩, ⟨⟨okf5_, ⟨okf25_, ⟨okf30_, ⟨okf36_, ⟨okf46_, trivial⟩⟩⟩⟩⟩, trivial, trivial⟩, trivial⟩, ⟨⟨okf13_, ⟨okf15_, ⟨okf17_, ⟨okf19_, ⟨okf20_, ⟨okf21_, ⟨okf22_, ⟨okf23_, ⟨okf34_, ⟨okf43_, ⟨okf44_, trivial⟩⟩⟩⟩⟩⟩⟩⟩⟩⟩⟩, trivial, trivial⟩⟩, ⟨⟨okf56_, ⟨okf60_, ⟨okf64_, ⟨okf68_, ⟨okf72_, trivial⟩⟩⟩⟩⟩, ⟨⟨okf8_, ⟨okf12_, ⟨okf14_, ⟨okf16_, ⟨okf18_, ⟨okf40_, ⟨okf41_, ⟨okf42_, trivial⟩⟩⟩⟩⟩⟩⟩⟩, trivial, trivial⟩, ⟨⟨okf10_, ⟨okf27_, ⟨okf32_, ⟨okf38_, ⟨okf48_, trivial⟩⟩⟩⟩⟩, trivial, trivial⟩⟩⟩⟩
end Go.Proofs.YtjkjkhfmalgenaaGreatDoor.topStream
