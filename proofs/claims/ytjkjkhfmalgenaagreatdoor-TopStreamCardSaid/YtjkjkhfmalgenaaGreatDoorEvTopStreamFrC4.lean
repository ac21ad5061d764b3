/- TopStream: pieces of its runs, by the kernel. -/
import Derived.Test.YtjkjkhfmalgenaaGreatDoorEvTopStreamFr
import Derived.Test.YtjkjkhfmalgenaaGreatDoorEvTopStreamFrC0
import Derived.Test.YtjkjkhfmalgenaaGreatDoorEvTopStreamFrC2
import Derived.Test.YtjkjkhfmalgenaaGreatDoorEvTopStreamFrC3
import Derived.KernelRfl
namespace Go.Proofs.YtjkjkhfmalgenaaGreatDoor.topStream
open Go.YtjkjkhfmalgenaaGreatDoorEv
set_option linter.unusedSectionVars false
variable [Lane]
set_option maxRecDepth 100000
theorem okf73_ : OrcOk Tryz.prog f73_ := orcFr_ok (n := 1000000) (fr := ⟨.nil, []⟩) (orc := (f52_.or (f51_.or (f4_.or O_)))) hmo (OrcOk.or okf52_ (OrcOk.or okf51_ (OrcOk.or okf4_ OO_))) (by kernel_rfl) fun W => by kernel_rfl
theorem okf74_ : OrcOk Tryz.prog f74_ := orcFr_ok (n := 1000000) (fr := ⟨.nil, []⟩) (orc := (f52_.or O_)) hmo (OrcOk.or okf52_ OO_) (by kernel_rfl) fun W => by kernel_rfl
theorem okf75_ : OrcOk Tryz.prog f75_ := orcFr_ok (n := 1000000) (fr := ⟨.nil, []⟩) (orc := (f5_.or (f52_.or O_))) hmo (OrcOk.or okf5_ (OrcOk.or okf52_ OO_)) (by kernel_rfl) fun W => by kernel_rfl
theorem okf76_ : OrcOk Tryz.prog f76_ := orcFr_ok (n := 1000000) (fr := ⟨.nil, []⟩) (orc := (f58_.or (f51_.or (f4_.or O_)))) hmo (OrcOk.or okf58_ (OrcOk.or okf51_ (OrcOk.or okf4_ OO_))) (by kernel_rfl) fun W => by kernel_rfl
theorem okf77_ : OrcOk Tryz.prog f77_ := orcFr_ok (n := 1000000) (fr := ⟨.nil, []⟩) (orc := (f58_.or O_)) hmo (OrcOk.or okf58_ OO_) (by kernel_rfl) fun W => by kernel_rfl
theorem okf78_ : OrcOk Tryz.prog f78_ := orcFr_ok (n := 1000000) (fr := ⟨.nil, []⟩) (orc := (f58_.or (f25_.or O_))) hmo (OrcOk.or okf58_ (OrcOk.or okf25_ OO_)) (by kernel_rfl) fun W => by kernel_rfl
theorem okf79_ : OrcOk Tryz.prog f79_ := orcFr_ok (n := 1000000) (fr := ⟨.nil, []⟩) (orc := (f62_.or (f51_.or (f4_.or O_)))) hmo (OrcOk.or okf62_ (OrcOk.or okf51_ (OrcOk.or okf4_ OO_))) (by kernel_rfl) fun W => by kernel_rfl
theorem okf80_ : OrcOk Tryz.prog f80_ := orcFr_ok (n := 1000000) (fr := ⟨.nil, []⟩) (orc := (f62_.or O_)) hmo (OrcOk.or okf62_ OO_) (by kernel_rfl) fun W => by kernel_rfl
theorem okf81_ : OrcOk Tryz.prog f81_ := orcFr_ok (n := 1000000) (fr := ⟨.nil, []⟩) (orc := (f62_.or (f30_.or O_))) hmo (OrcOk.or okf62_ (OrcOk.or okf30_ OO_)) (by kernel_rfl) fun W => by kernel_rfl
theorem okf82_ : OrcOk Tryz.prog f82_ := orcFr_ok (n := 1000000) (fr := ⟨.nil, []⟩) (orc := (f66_.or (f51_.or (f4_.or O_)))) hmo (OrcOk.or okf66_ (OrcOk.or okf51_ (OrcOk.or okf4_ OO_))) (by kernel_rfl) fun W => by kernel_rfl
theorem okf83_ : OrcOk Tryz.prog f83_ := orcFr_ok (n := 1000000) (fr := ⟨.nil, []⟩) (orc := (f66_.or O_)) hmo (OrcOk.or okf66_ OO_) (by kernel_rfl) fun W => by kernel_rfl
theorem okf84_ : OrcOk Tryz.prog f84_ := orcFr_ok (n := 1000000) (fr := ⟨.nil, []⟩) (orc := (f66_.or (f36_.or O_))) hmo (OrcOk.or okf66_ (OrcOk.or okf36_ OO_)) (by kernel_rfl) fun W => by kernel_rfl
theorem okf85_ : OrcOk Tryz.prog f85_ := orcFr_ok (n := 1000000) (fr := ⟨.nil, []⟩) (orc := (f70_.or (f51_.or (f4_.or O_)))) hmo (OrcOk.or okf70_ (OrcOk.or okf51_ (OrcOk.or okf4_ OO_))) (by kernel_rfl) fun W => by kernel_rfl
theorem okf86_ : OrcOk Tryz.prog f86_ := orcFr_ok (n := 1000000) (fr := ⟨.nil, []⟩) (orc := (f70_.or O_)) hmo (OrcOk.or okf70_ OO_) (by kernel_rfl) fun W => by kernel_rfl
theorem okf87_ : OrcOk Tryz.prog f87_ := orcFr_ok (n := 1000000) (fr := ⟨.nil, []⟩) (orc := (f70_.or (f46_.or O_))) hmo (OrcOk.or okf70_ (OrcOk.or okf46_ OO_)) (by kernel_rfl) fun W => by kernel_rfl
end Go.Proofs.YtjkjkhfmalgenaaGreatDoor.topStream
