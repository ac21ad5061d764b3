/- PersistTimes: pieces of its runs, by the kernel. -/
import Derived.Test.YtakckpjalmmemaaGreatDoorEvPersistTimesFr
import Derived.Test.YtakckpjalmmemaaGreatDoorEvPersistTimesFrC0
import Derived.Test.YtakckpjalmmemaaGreatDoorEvPersistTimesFrC1
import Derived.Test.YtakckpjalmmemaaGreatDoorEvPersistTimesFrC2
import Derived.KernelRfl
namespace Go.Proofs.YtakckpjalmmemaaGreatDoor.persistTimes
open Go.YtakckpjalmmemaaGreatDoorEv
set_option linter.unusedSectionVars false
variable [Lane]
set_option maxRecDepth 100000
theorem okf193_ : OrcOk Tryz.prog f193_ := orcFr_ok (n := 1000000) (fr := ⟨.nil, []⟩) (orc := (f104_.or O_)) hmo (OrcOk.or okf104_ OO_) (by kernel_rfl) fun W => by kernel_rfl
theorem okf194_ : OrcOk Tryz.prog f194_ := orcFr_ok (n := 1000000) (fr := ⟨.nil, []⟩) (orc := (f104_.or O_)) hmo (OrcOk.or okf104_ OO_) (by kernel_rfl) fun W => by kernel_rfl
theorem okf195_ : OrcOk Tryz.prog f195_ := orcFr_ok (n := 1000000) (fr := ⟨.nil, []⟩) (orc := (f104_.or O_)) hmo (OrcOk.or okf104_ OO_) (by kernel_rfl) fun W => by kernel_rfl
theorem okf196_ : OrcOk Tryz.prog f196_ := orcFr_ok (n := 1000000) (fr := ⟨.nil, []⟩) (orc := (f104_.or O_)) hmo (OrcOk.or okf104_ OO_) (by kernel_rfl) fun W => by kernel_rfl
theorem okf197_ : OrcOk Tryz.prog f197_ := orcFr_ok (n := 1000000) (fr := ⟨.nil, []⟩) (orc := (f104_.or O_)) hmo (OrcOk.or okf104_ OO_) (by kernel_rfl) fun W => by kernel_rfl
theorem okf198_ : OrcOk Tryz.prog f198_ := orcFr_ok (n := 1000000) (fr := ⟨.nil, []⟩) (orc := (f104_.or O_)) hmo (OrcOk.or okf104_ OO_) (by kernel_rfl) fun W => by kernel_rfl
theorem okf199_ : OrcOk Tryz.prog f199_ := orcFr_ok (n := 1000000) (fr := ⟨.nil, []⟩) (orc := (f104_.or O_)) hmo (OrcOk.or okf104_ OO_) (by kernel_rfl) fun W => by kernel_rfl
theorem okf200_ : OrcOk Tryz.prog f200_ := orcFr_ok (n := 1000000) (fr := ⟨.nil, []⟩) (orc := (f104_.or O_)) hmo (OrcOk.or okf104_ OO_) (by kernel_rfl) fun W => by kernel_rfl
theorem okf201_ : OrcOk Tryz.prog f201_ := orcFr_ok (n := 1000000) (fr := ⟨.nil, []⟩) (orc := (f104_.or O_)) hmo (OrcOk.or okf104_ OO_) (by kernel_rfl) fun W => by kernel_rfl
theorem okf202_ : OrcOk Tryz.prog f202_ := orcFr_ok (n := 1000000) (fr := ⟨.nil, []⟩) (orc := (f104_.or O_)) hmo (OrcOk.or okf104_ OO_) (by kernel_rfl) fun W => by kernel_rfl
theorem okf203_ : OrcOk Tryz.prog f203_ := orcFr_ok (n := 1000000) (fr := ⟨.nil, []⟩) (orc := (f104_.or O_)) hmo (OrcOk.or okf104_ OO_) (by kernel_rfl) fun W => by kernel_rfl
theorem okf204_ : OrcOk Tryz.prog f204_ := orcFr_ok (n := 1000000) (fr := ⟨.nil, []⟩) (orc := (f104_.or O_)) hmo (OrcOk.or okf104_ OO_) (by kernel_rfl) fun W => by kernel_rfl
theorem okf205_ : OrcOk Tryz.prog f205_ := orcFr_ok (n := 1000000) (fr := ⟨.nil, []⟩) (orc := (f104_.or O_)) hmo (OrcOk.or okf104_ OO_) (by kernel_rfl) fun W => by kernel_rfl
theorem okf206_ : OrcOk Tryz.prog f206_ := orcFr_ok (n := 1000000) (fr := ⟨.nil, []⟩) (orc := (f1_.or (f104_.or (f102_.or O_)))) hmo (OrcOk.or okf1_ (OrcOk.or okf104_ (OrcOk.or okf102_ OO_))) (by kernel_rfl) fun W => by kernel_rfl
end Go.Proofs.YtakckpjalmmemaaGreatDoor.persistTimes
