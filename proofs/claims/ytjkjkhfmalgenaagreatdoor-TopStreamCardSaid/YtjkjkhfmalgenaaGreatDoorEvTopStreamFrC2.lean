/- TopStream: pieces of its runs, by the kernel. -/
import Derived.Test.YtjkjkhfmalgenaaGreatDoorEvTopStreamFr
import Derived.Test.YtjkjkhfmalgenaaGreatDoorEvTopStreamFrC0
import Derived.KernelRfl
namespace Go.Proofs.YtjkjkhfmalgenaaGreatDoor.topStream
open Go.YtjkjkhfmalgenaaGreatDoorEv
set_option linter.unusedSectionVars false
variable [Lane]
set_option maxRecDepth 100000
theorem okf50_ : OrcOk Tryz.prog f50_ := orcFr_ok (n := 1000000) (fr := ⟨.nil, []⟩) (orc := (f2_.or (f1_.or O_))) hmo (OrcOk.or okf2_ (OrcOk.or okf1_ OO_)) (by kernel_rfl) fun W => by kernel_rfl
theorem okf51_ : OrcOk Tryz.prog f51_ := orcFr_ok (n := 1000000) (fr := ⟨.nil, []⟩) (orc := (f3_.or O_)) hmo (OrcOk.or okf3_ OO_) (by kernel_rfl) fun W => by kernel_rfl
theorem okf52_ : OrcOk Tryz.prog f52_ := orcFr_ok (n := 1000000) (fr := ⟨.nil, []⟩) (orc := (f5_.or (f3_.or O_))) hmo (OrcOk.or okf5_ (OrcOk.or okf3_ OO_)) (by kernel_rfl) fun W => by kernel_rfl
theorem okf53_ : OrcOk Tryz.prog f53_ := orcFr_ok (n := 1000000) (fr := ⟨.nil, []⟩) (orc := (f6_.or (f2_.or O_))) hmo (OrcOk.or okf6_ (OrcOk.or okf2_ OO_)) (by kernel_rfl) fun W => by kernel_rfl
theorem okf54_ : OrcOk Tryz.prog f54_ := orcFr_ok (n := 1000000) (fr := ⟨.nil, []⟩) (orc := (f7_.or O_)) hmo (OrcOk.or okf7_ OO_) (by kernel_rfl) fun W => by kernel_rfl
theorem okf55_ : OrcOk Tryz.prog f55_ := orcFr_ok (n := 1000000) (fr := ⟨.nil, []⟩) (orc := (f7_.or O_)) hmo (OrcOk.or okf7_ OO_) (by kernel_rfl) fun W => by kernel_rfl
theorem okf56_ : OrcOk Tryz.prog f56_ := orcFr_ok (n := 1000000) (fr := ⟨.nil, []⟩) (orc := (f9_.or (f2_.or O_))) hmo (OrcOk.or okf9_ (OrcOk.or okf2_ OO_)) (by kernel_rfl) fun W => by kernel_rfl
theorem okf57_ : OrcOk Tryz.prog f57_ := orcFr_ok (n := 1000000) (fr := ⟨.nil, []⟩) (orc := (f24_.or (f1_.or O_))) hmo (OrcOk.or okf24_ (OrcOk.or okf1_ OO_)) (by kernel_rfl) fun W => by kernel_rfl
theorem okf58_ : OrcOk Tryz.prog f58_ := orcFr_ok (n := 1000000) (fr := ⟨.nil, []⟩) (orc := (f3_.or (f25_.or O_))) hmo (OrcOk.or okf3_ (OrcOk.or okf25_ OO_)) (by kernel_rfl) fun W => by kernel_rfl
theorem okf59_ : OrcOk Tryz.prog f59_ := orcFr_ok (n := 1000000) (fr := ⟨.nil, []⟩) (orc := (f26_.or (f24_.or O_))) hmo (OrcOk.or okf26_ (OrcOk.or okf24_ OO_)) (by kernel_rfl) fun W => by kernel_rfl
theorem okf60_ : OrcOk Tryz.prog f60_ := orcFr_ok (n := 1000000) (fr := ⟨.nil, []⟩) (orc := (f9_.or (f24_.or O_))) hmo (OrcOk.or okf9_ (OrcOk.or okf24_ OO_)) (by kernel_rfl) fun W => by kernel_rfl
theorem okf61_ : OrcOk Tryz.prog f61_ := orcFr_ok (n := 1000000) (fr := ⟨.nil, []⟩) (orc := (f29_.or (f1_.or O_))) hmo (OrcOk.or okf29_ (OrcOk.or okf1_ OO_)) (by kernel_rfl) fun W => by kernel_rfl
theorem okf62_ : OrcOk Tryz.prog f62_ := orcFr_ok (n := 1000000) (fr := ⟨.nil, []⟩) (orc := (f3_.or (f30_.or O_))) hmo (OrcOk.or okf3_ (OrcOk.or okf30_ OO_)) (by kernel_rfl) fun W => by kernel_rfl
theorem okf63_ : OrcOk Tryz.prog f63_ := orcFr_ok (n := 1000000) (fr := ⟨.nil, []⟩) (orc := (f31_.or (f29_.or O_))) hmo (OrcOk.or okf31_ (OrcOk.or okf29_ OO_)) (by kernel_rfl) fun W => by kernel_rfl
theorem okf64_ : OrcOk Tryz.prog f64_ := orcFr_ok (n := 1000000) (fr := ⟨.nil, []⟩) (orc := (f9_.or (f29_.or O_))) hmo (OrcOk.or okf9_ (OrcOk.or okf29_ OO_)) (by kernel_rfl) fun W => by kernel_rfl
end Go.Proofs.YtjkjkhfmalgenaaGreatDoor.topStream
