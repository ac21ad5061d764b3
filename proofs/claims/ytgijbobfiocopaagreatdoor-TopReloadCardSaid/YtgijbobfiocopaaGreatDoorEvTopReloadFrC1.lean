/- TopReload: pieces of its runs, by the kernel. -/
import Derived.Test.YtgijbobfiocopaaGreatDoorEvTopReloadFr
import Derived.Test.YtgijbobfiocopaaGreatDoorEvTopReloadFrC0
import Derived.KernelRfl
namespace Go.Proofs.YtgijbobfiocopaaGreatDoor.topReload
open Go.YtgijbobfiocopaaGreatDoorEv
set_option linter.unusedSectionVars false
variable [Lane]
set_option maxRecDepth 100000
theorem okf25_ : OrcOk Tryz.prog f25_ := orcFr_ok (n := 1000000) (fr := ⟨.nil, []⟩) (orc := (f1_.or (f0_.or O_))) hmo (OrcOk.or okf1_ (OrcOk.or okf0_ OO_)) (by kernel_rfl) fun W => by kernel_rfl
theorem okf26_ : OrcOk Tryz.prog f26_ := orcFr_ok (n := 1000000) (fr := ⟨.nil, []⟩) (orc := (f2_.or O_)) hmo (OrcOk.or okf2_ OO_) (by kernel_rfl) fun W => by kernel_rfl
theorem okf27_ : OrcOk Tryz.prog f27_ := orcFr_ok (n := 1000000) (fr := ⟨.nil, []⟩) (orc := (f4_.or O_)) hmo (OrcOk.or okf4_ OO_) (by kernel_rfl) fun W => by kernel_rfl
theorem okf28_ : OrcOk Tryz.prog f28_ := orcFr_ok (n := 1000000) (fr := ⟨.nil, []⟩) (orc := (f9_.or O_)) hmo (OrcOk.or okf9_ OO_) (by kernel_rfl) fun W => by kernel_rfl
theorem okf29_ : OrcOk Tryz.prog f29_ := orcFr_ok (n := 1000000) (fr := ⟨.nil, []⟩) (orc := (f11_.or (f0_.or O_))) hmo (OrcOk.or okf11_ (OrcOk.or okf0_ OO_)) (by kernel_rfl) fun W => by kernel_rfl
theorem okf30_ : OrcOk Tryz.prog f30_ := orcFr_ok (n := 1000000) (fr := ⟨.nil, []⟩) (orc := (f4_.or O_)) hmo (OrcOk.or okf4_ OO_) (by kernel_rfl) fun W => by kernel_rfl
theorem okf31_ : OrcOk Tryz.prog f31_ := orcFr_ok (n := 1000000) (fr := ⟨.nil, []⟩) (orc := (f4_.or O_)) hmo (OrcOk.or okf4_ OO_) (by kernel_rfl) fun W => by kernel_rfl
theorem okf32_ : OrcOk Tryz.prog f32_ := orcFr_ok (n := 1000000) (fr := ⟨.nil, []⟩) (orc := (f11_.or (f0_.or O_))) hmo (OrcOk.or okf11_ (OrcOk.or okf0_ OO_)) (by kernel_rfl) fun W => by kernel_rfl
theorem okf33_ : OrcOk Tryz.prog f33_ := orcFr_ok (n := 1000000) (fr := ⟨.nil, []⟩) (orc := (f4_.or O_)) hmo (OrcOk.or okf4_ OO_) (by kernel_rfl) fun W => by kernel_rfl
theorem okf34_ : OrcOk Tryz.prog f34_ := orcFr_ok (n := 1000000) (fr := ⟨.nil, []⟩) (orc := (f11_.or (f0_.or O_))) hmo (OrcOk.or okf11_ (OrcOk.or okf0_ OO_)) (by kernel_rfl) fun W => by kernel_rfl
theorem okf35_ : OrcOk Tryz.prog f35_ := orcFr_ok (n := 1000000) (fr := ⟨.nil, []⟩) (orc := (f4_.or O_)) hmo (OrcOk.or okf4_ OO_) (by kernel_rfl) fun W => by kernel_rfl
theorem okf36_ : OrcOk Tryz.prog f36_ := orcFr_ok (n := 1000000) (fr := ⟨.nil, []⟩) (orc := (f4_.or O_)) hmo (OrcOk.or okf4_ OO_) (by kernel_rfl) fun W => by kernel_rfl
theorem okf37_ : OrcOk Tryz.prog f37_ := orcFr_ok (n := 1000000) (fr := ⟨.nil, []⟩) (orc := (f2_.or O_)) hmo (OrcOk.or okf2_ OO_) (by kernel_rfl) fun W => by kernel_rfl
theorem okf38_ : OrcOk Tryz.prog f38_ := orcFr_ok (n := 1000000) (fr := ⟨.nil, []⟩) (orc := (f1_.or O_)) hmo (OrcOk.or okf1_ OO_) (by kernel_rfl) fun W => by kernel_rfl
end Go.Proofs.YtgijbobfiocopaaGreatDoor.topReload
