/- TopStream: pieces of its runs, by the kernel. -/
import Derived.Test.YtjkjkhfmalgenaaGreatDoorEvTopStreamFr
import Derived.Test.YtjkjkhfmalgenaaGreatDoorEvTopStreamFrC2
import Derived.Test.YtjkjkhfmalgenaaGreatDoorEvTopStreamFrC4
import Derived.KernelRfl
namespace Go.Proofs.YtjkjkhfmalgenaaGreatDoor.topStream
open Go.YtjkjkhfmalgenaaGreatDoorEv
set_option linter.unusedSectionVars false
variable [Lane]
set_option maxRecDepth 100000
theorem okf88_ : OrcOk Tryz.prog f88_ := orcFr_ok (n := 1000000) (fr := ⟨.nil, []⟩) (orc := (f75_.or (f74_.or O_))) hmo (OrcOk.or okf75_ (OrcOk.or okf74_ OO_)) (by kernel_rfl) fun W => by kernel_rfl
theorem okf89_ : OrcOk Tryz.prog f89_ := orcFr_ok (n := 1000000) (fr := ⟨.nil, []⟩) (orc := (f75_.or (f74_.or (f55_.or (f54_.or O_))))) hmo (OrcOk.or okf75_ (OrcOk.or okf74_ (OrcOk.or okf55_ (OrcOk.or okf54_ OO_)))) (by kernel_rfl) fun W => by kernel_rfl
theorem okf90_ : OrcOk Tryz.prog f90_ := orcFr_ok (n := 1000000) (fr := ⟨.nil, []⟩) (orc := (f78_.or (f77_.or O_))) hmo (OrcOk.or okf78_ (OrcOk.or okf77_ OO_)) (by kernel_rfl) fun W => by kernel_rfl
theorem okf91_ : OrcOk Tryz.prog f91_ := orcFr_ok (n := 1000000) (fr := ⟨.nil, []⟩) (orc := (f78_.or (f77_.or (f55_.or (f54_.or O_))))) hmo (OrcOk.or okf78_ (OrcOk.or okf77_ (OrcOk.or okf55_ (OrcOk.or okf54_ OO_)))) (by kernel_rfl) fun W => by kernel_rfl
theorem okf92_ : OrcOk Tryz.prog f92_ := orcFr_ok (n := 1000000) (fr := ⟨.nil, []⟩) (orc := (f81_.or (f80_.or O_))) hmo (OrcOk.or okf81_ (OrcOk.or okf80_ OO_)) (by kernel_rfl) fun W => by kernel_rfl
theorem okf93_ : OrcOk Tryz.prog f93_ := orcFr_ok (n := 1000000) (fr := ⟨.nil, []⟩) (orc := (f81_.or (f80_.or (f55_.or (f54_.or O_))))) hmo (OrcOk.or okf81_ (OrcOk.or okf80_ (OrcOk.or okf55_ (OrcOk.or okf54_ OO_)))) (by kernel_rfl) fun W => by kernel_rfl
theorem okf94_ : OrcOk Tryz.prog f94_ := orcFr_ok (n := 1000000) (fr := ⟨.nil, []⟩) (orc := (f84_.or (f83_.or O_))) hmo (OrcOk.or okf84_ (OrcOk.or okf83_ OO_)) (by kernel_rfl) fun W => by kernel_rfl
theorem okf95_ : OrcOk Tryz.prog f95_ := orcFr_ok (n := 1000000) (fr := ⟨.nil, []⟩) (orc := (f84_.or (f83_.or (f55_.or (f54_.or O_))))) hmo (OrcOk.or okf84_ (OrcOk.or okf83_ (OrcOk.or okf55_ (OrcOk.or okf54_ OO_)))) (by kernel_rfl) fun W => by kernel_rfl
theorem okf96_ : OrcOk Tryz.prog f96_ := orcFr_ok (n := 1000000) (fr := ⟨.nil, []⟩) (orc := (f87_.or (f86_.or O_))) hmo (OrcOk.or okf87_ (OrcOk.or okf86_ OO_)) (by kernel_rfl) fun W => by kernel_rfl
theorem okf97_ : OrcOk Tryz.prog f97_ := orcFr_ok (n := 1000000) (fr := ⟨.nil, []⟩) (orc := (f87_.or (f86_.or (f55_.or (f54_.or O_))))) hmo (OrcOk.or okf87_ (OrcOk.or okf86_ (OrcOk.or okf55_ (OrcOk.or okf54_ OO_)))) (by kernel_rfl) fun W => by kernel_rfl
end Go.Proofs.YtjkjkhfmalgenaaGreatDoor.topStream
