/- PersistTimes: pieces of its runs, by the kernel. -/
import Derived.Test.YtakckpjalmmemaaGreatDoorEvPersistTimesFr
import Derived.KernelRfl
namespace Go.Proofs.YtakckpjalmmemaaGreatDoor.persistTimes
open Go.YtakckpjalmmemaaGreatDoorEv
set_option linter.unusedSectionVars false
variable [Lane]
set_option maxRecDepth 100000
theorem okf71_ : OrcOk Tryz.prog f71_ := okFr (by kernel_rfl) fun W => by kernel_rfl
theorem okf72_ : OrcOk Tryz.prog f72_ := okFr (by kernel_rfl) fun W => by kernel_rfl
theorem okf73_ : OrcOk Tryz.prog f73_ := okFr (by kernel_rfl) fun W => by kernel_rfl
theorem okf74_ : OrcOk Tryz.prog f74_ := okFr (by kernel_rfl) fun W => by kernel_rfl
theorem okf75_ : OrcOk Tryz.prog f75_ := okFr (by kernel_rfl) fun W => by kernel_rfl
theorem okf76_ : OrcOk Tryz.prog f76_ := okFr (by kernel_rfl) fun W => by kernel_rfl
theorem okf77_ : OrcOk Tryz.prog f77_ := okFr (by kernel_rfl) fun W => by kernel_rfl
theorem okf78_ : OrcOk Tryz.prog f78_ := okFr (by kernel_rfl) fun W => by kernel_rfl
theorem okf79_ : OrcOk Tryz.prog f79_ := okFr (by kernel_rfl) fun W => by kernel_rfl
theorem okf80_ : OrcOk Tryz.prog f80_ := okFr (by kernel_rfl) fun W => by kernel_rfl
theorem okf81_ : OrcOk Tryz.prog f81_ := okFr (by kernel_rfl) fun W => by kernel_rfl
theorem okf82_ : OrcOk Tryz.prog f82_ := okFr (by kernel_rfl) fun W => by kernel_rfl
theorem okf83_ : OrcOk Tryz.prog f83_ := okFr (by kernel_rfl) fun W => by kernel_rfl
theorem okf84_ : OrcOk Tryz.prog f84_ := okFr (by kernel_rfl) fun W => by kernel_rfl
theorem okf85_ : OrcOk Tryz.prog f85_ := okFr (by kernel_rfl) fun W => by kernel_rfl
theorem okf86_ : OrcOk Tryz.prog f86_ := okFr (by kernel_rfl) fun W => by kernel_rfl
theorem okf87_ : OrcOk Tryz.prog f87_ := okFr (by kernel_rfl) fun W => by kernel_rfl
theorem okf88_ : OrcOk Tryz.prog f88_ := okFr (by kernel_rfl) fun W => by kernel_rfl
theorem okf89_ : OrcOk Tryz.prog f89_ := okFr (by kernel_rfl) fun W => by kernel_rfl
theorem okf90_ : OrcOk Tryz.prog f90_ := okFr (by kernel_rfl) fun W => by kernel_rfl
theorem okf91_ : OrcOk Tryz.prog f91_ := okFr (by kernel_rfl) fun W => by kernel_rfl
theorem okf92_ : OrcOk Tryz.prog f92_ := okFr (by kernel_rfl) fun W => by kernel_rfl
theorem okf93_ : OrcOk Tryz.prog f93_ := okFr (by kernel_rfl) fun W => by kernel_rfl
theorem okf94_ : OrcOk Tryz.prog f94_ := okFr (by kernel_rfl) fun W => by kernel_rfl
theorem okf95_ : OrcOk Tryz.prog f95_ := okFr (by kernel_rfl) fun W => by kernel_rfl
theorem okf96_ : OrcOk Tryz.prog f96_ := okFr (by kernel_rfl) fun W => by kernel_rfl
theorem okf97_ : OrcOk Tryz.prog f97_ := okFr (by kernel_rfl) fun W => by kernel_rfl
theorem okf98_ : OrcOk Tryz.prog f98_ := okFr (by kernel_rfl) fun W => by kernel_rfl
theorem okf99_ : OrcOk Tryz.prog f99_ := okFr (by kernel_rfl) fun W => by kernel_rfl
theorem okf100_ : OrcOk Tryz.prog f100_ := okFr (by kernel_rfl) fun W => by kernel_rfl
theorem okf101_ : OrcOk Tryz.prog f101_ := okFr (by kernel_rfl) fun W => by kernel_rfl
theorem okf102_ : OrcOk Tryz.prog f102_ := okFr (by kernel_rfl) fun W => by kernel_rfl
end Go.Proofs.YtakckpjalmmemaaGreatDoor.persistTimes
