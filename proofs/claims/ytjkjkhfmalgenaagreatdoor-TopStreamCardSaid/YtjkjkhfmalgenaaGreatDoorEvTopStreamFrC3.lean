/- TopStream: pieces of its runs, by the kernel. -/
import Derived.Test.YtjkjkhfmalgenaaGreatDoorEvTopStreamFr
import Derived.Test.YtjkjkhfmalgenaaGreatDoorEvTopStreamFrC0
import Derived.KernelRfl
namespace Go.Proofs.YtjkjkhfmalgenaaGreatDoor.topStream
open Go.YtjkjkhfmalgenaaGreatDoorEv
set_option linter.unusedSectionVars false
variable [Lane]
set_option maxRecDepth 100000
theorem okf65_ : OrcOk Tryz.prog f65_ := orcFr_ok (n := 1000000) (fr := ⟨.nil, []⟩) (orc := (f35_.or (f1_.or O_))) hmo (OrcOk.or okf35_ (OrcOk.or okf1_ OO_)) (by kernel_rfl) fun W => by kernel_rfl
theorem okf66_ : OrcOk Tryz.prog f66_ := orcFr_ok (n := 1000000) (fr := ⟨.nil, []⟩) (orc := (f3_.or (f36_.or O_))) hmo (OrcOk.or okf3_ (OrcOk.or okf36_ OO_)) (by kernel_rfl) fun W => by kernel_rfl
theorem okf67_ : OrcOk Tryz.prog f67_ := orcFr_ok (n := 1000000) (fr := ⟨.nil, []⟩) (orc := (f37_.or (f35_.or O_))) hmo (OrcOk.or okf37_ (OrcOk.or okf35_ OO_)) (by kernel_rfl) fun W => by kernel_rfl
theorem okf68_ : OrcOk Tryz.prog f68_ := orcFr_ok (n := 1000000) (fr := ⟨.nil, []⟩) (orc := (f9_.or (f35_.or O_))) hmo (OrcOk.or okf9_ (OrcOk.or okf35_ OO_)) (by kernel_rfl) fun W => by kernel_rfl
theorem okf69_ : OrcOk Tryz.prog f69_ := orcFr_ok (n := 1000000) (fr := ⟨.nil, []⟩) (orc := (f45_.or (f1_.or O_))) hmo (OrcOk.or okf45_ (OrcOk.or okf1_ OO_)) (by kernel_rfl) fun W => by kernel_rfl
theorem okf70_ : OrcOk Tryz.prog f70_ := orcFr_ok (n := 1000000) (fr := ⟨.nil, []⟩) (orc := (f46_.or (f3_.or O_))) hmo (OrcOk.or okf46_ (OrcOk.or okf3_ OO_)) (by kernel_rfl) fun W => by kernel_rfl
theorem okf71_ : OrcOk Tryz.prog f71_ := orcFr_ok (n := 1000000) (fr := ⟨.nil, []⟩) (orc := (f47_.or (f45_.or O_))) hmo (OrcOk.or okf47_ (OrcOk.or okf45_ OO_)) (by kernel_rfl) fun W => by kernel_rfl
theorem okf72_ : OrcOk Tryz.prog f72_ := orcFr_ok (n := 1000000) (fr := ⟨.nil, []⟩) (orc := (f9_.or (f45_.or O_))) hmo (OrcOk.or okf9_ (OrcOk.or okf45_ OO_)) (by kernel_rfl) fun W => by kernel_rfl
end Go.Proofs.YtjkjkhfmalgenaaGreatDoor.topStream
