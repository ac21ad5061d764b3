/- TopReload: pieces of its runs, by the kernel. -/
import Derived.Test.YtgijbobfiocopaaGreatDoorEvTopReloadFr
import Derived.Test.YtgijbobfiocopaaGreatDoorEvTopReloadFrC0
import Derived.Test.YtgijbobfiocopaaGreatDoorEvTopReloadFrC1
import Derived.Test.YtgijbobfiocopaaGreatDoorEvTopReloadFrC2
import Derived.KernelRfl
namespace Go.Proofs.YtgijbobfiocopaaGreatDoor.topReload
open Go.YtgijbobfiocopaaGreatDoorEv
set_option linter.unusedSectionVars false
variable [Lane]
set_option maxRecDepth 100000
theorem okf56_ : OrcOk Tryz.prog f56_ := orcFr_ok (n := 1000000) (fr := ⟨.nil, []⟩) (orc := (f39_.or (f25_.or O_))) hmo (OrcOk.or okf39_ (OrcOk.or okf25_ OO_)) (by kernel_rfl) fun W => by kernel_rfl
theorem okf57_ : OrcOk Tryz.prog f57_ := orcFr_ok (n := 1000000) (fr := ⟨.nil, []⟩) (orc := (f39_.or (f25_.or O_))) hmo (OrcOk.or okf39_ (OrcOk.or okf25_ OO_)) (by kernel_rfl) fun W => by kernel_rfl
theorem okf58_ : OrcOk Tryz.prog f58_ := orcFr_ok (n := 1000000) (fr := ⟨.nil, []⟩) (orc := (f46_.or (f25_.or O_))) hmo (OrcOk.or okf46_ (OrcOk.or okf25_ OO_)) (by kernel_rfl) fun W => by kernel_rfl
theorem okf59_ : OrcOk Tryz.prog f59_ := orcFr_ok (n := 1000000) (fr := ⟨.nil, []⟩) (orc := (f46_.or (f25_.or O_))) hmo (OrcOk.or okf46_ (OrcOk.or okf25_ OO_)) (by kernel_rfl) fun W => by kernel_rfl
theorem okf60_ : OrcOk Tryz.prog f60_ := orcFr_ok (n := 1000000) (fr := ⟨.nil, []⟩) (orc := (f50_.or (f38_.or (f37_.or (f0_.or O_))))) hmo (OrcOk.or okf50_ (OrcOk.or okf38_ (OrcOk.or okf37_ (OrcOk.or okf0_ OO_)))) (by kernel_rfl) fun W => by kernel_rfl
theorem okf61_ : OrcOk Tryz.prog f61_ := orcFr_ok (n := 1000000) (fr := ⟨.nil, []⟩) (orc := (f50_.or (f38_.or (f37_.or (f0_.or O_))))) hmo (OrcOk.or okf50_ (OrcOk.or okf38_ (OrcOk.or okf37_ (OrcOk.or okf0_ OO_)))) (by kernel_rfl) fun W => by kernel_rfl
theorem okf62_ : OrcOk Tryz.prog f62_ := orcFr_ok (n := 1000000) (fr := ⟨.nil, []⟩) (orc := (f50_.or (f38_.or (f37_.or (f0_.or O_))))) hmo (OrcOk.or okf50_ (OrcOk.or okf38_ (OrcOk.or okf37_ (OrcOk.or okf0_ OO_)))) (by kernel_rfl) fun W => by kernel_rfl
end Go.Proofs.YtgijbobfiocopaaGreatDoor.topReload
