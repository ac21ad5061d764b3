/- TopReload: pieces of its runs, by the kernel. -/
import Derived.Test.YtgijbobfiocopaaGreatDoorEvTopReloadFr
import Derived.Test.YtgijbobfiocopaaGreatDoorEvTopReloadFrC0
import Derived.Test.YtgijbobfiocopaaGreatDoorEvTopReloadFrC1
import Derived.KernelRfl
namespace Go.Proofs.YtgijbobfiocopaaGreatDoor.topReload
open Go.YtgijbobfiocopaaGreatDoorEv
set_option linter.unusedSectionVars false
variable [Lane]
set_option maxRecDepth 100000
theorem okf39_ : OrcOk Tryz.prog f39_ := orcFr_ok (n := 1000000) (fr := ⟨.nil, []⟩) (orc := (f3_.or (f26_.or (f0_.or O_)))) hmo (OrcOk.or okf3_ (OrcOk.or okf26_ (OrcOk.or okf0_ OO_))) (by kernel_rfl) fun W => by kernel_rfl
theorem okf40_ : OrcOk Tryz.prog f40_ := orcFr_ok (n := 1000000) (fr := ⟨.nil, []⟩) (orc := (f6_.or (f5_.or (f4_.or (f27_.or O_))))) hmo (OrcOk.or okf6_ (OrcOk.or okf5_ (OrcOk.or okf4_ (OrcOk.or okf27_ OO_)))) (by kernel_rfl) fun W => by kernel_rfl
theorem okf41_ : OrcOk Tryz.prog f41_ := orcFr_ok (n := 1000000) (fr := ⟨.nil, []⟩) (orc := (f8_.or (f7_.or (f28_.or O_)))) hmo (OrcOk.or okf8_ (OrcOk.or okf7_ (OrcOk.or okf28_ OO_))) (by kernel_rfl) fun W => by kernel_rfl
theorem okf42_ : OrcOk Tryz.prog f42_ := orcFr_ok (n := 1000000) (fr := ⟨.nil, []⟩) (orc := (f4_.or (f27_.or (f13_.or (f12_.or O_))))) hmo (OrcOk.or okf4_ (OrcOk.or okf27_ (OrcOk.or okf13_ (OrcOk.or okf12_ OO_)))) (by kernel_rfl) fun W => by kernel_rfl
theorem okf43_ : OrcOk Tryz.prog f43_ := orcFr_ok (n := 1000000) (fr := ⟨.nil, []⟩) (orc := (f3_.or (f26_.or (f25_.or (f0_.or O_))))) hmo (OrcOk.or okf3_ (OrcOk.or okf26_ (OrcOk.or okf25_ (OrcOk.or okf0_ OO_)))) (by kernel_rfl) fun W => by kernel_rfl
theorem okf44_ : OrcOk Tryz.prog f44_ := orcFr_ok (n := 1000000) (fr := ⟨.nil, []⟩) (orc := (f4_.or (f27_.or (f15_.or (f14_.or O_))))) hmo (OrcOk.or okf4_ (OrcOk.or okf27_ (OrcOk.or okf15_ (OrcOk.or okf14_ OO_)))) (by kernel_rfl) fun W => by kernel_rfl
theorem okf45_ : OrcOk Tryz.prog f45_ := orcFr_ok (n := 1000000) (fr := ⟨.nil, []⟩) (orc := (f8_.or (f7_.or (f28_.or O_)))) hmo (OrcOk.or okf8_ (OrcOk.or okf7_ (OrcOk.or okf28_ OO_))) (by kernel_rfl) fun W => by kernel_rfl
theorem okf46_ : OrcOk Tryz.prog f46_ := orcFr_ok (n := 1000000) (fr := ⟨.nil, []⟩) (orc := (f3_.or (f26_.or (f0_.or O_)))) hmo (OrcOk.or okf3_ (OrcOk.or okf26_ (OrcOk.or okf0_ OO_))) (by kernel_rfl) fun W => by kernel_rfl
theorem okf47_ : OrcOk Tryz.prog f47_ := orcFr_ok (n := 1000000) (fr := ⟨.nil, []⟩) (orc := (f4_.or (f27_.or (f18_.or (f17_.or O_))))) hmo (OrcOk.or okf4_ (OrcOk.or okf27_ (OrcOk.or okf18_ (OrcOk.or okf17_ OO_)))) (by kernel_rfl) fun W => by kernel_rfl
theorem okf48_ : OrcOk Tryz.prog f48_ := orcFr_ok (n := 1000000) (fr := ⟨.nil, []⟩) (orc := (f8_.or (f7_.or (f28_.or O_)))) hmo (OrcOk.or okf8_ (OrcOk.or okf7_ (OrcOk.or okf28_ OO_))) (by kernel_rfl) fun W => by kernel_rfl
theorem okf49_ : OrcOk Tryz.prog f49_ := orcFr_ok (n := 1000000) (fr := ⟨.nil, []⟩) (orc := (f4_.or (f27_.or (f21_.or (f20_.or O_))))) hmo (OrcOk.or okf4_ (OrcOk.or okf27_ (OrcOk.or okf21_ (OrcOk.or okf20_ OO_)))) (by kernel_rfl) fun W => by kernel_rfl
theorem okf50_ : OrcOk Tryz.prog f50_ := orcFr_ok (n := 1000000) (fr := ⟨.nil, []⟩) (orc := (f9_.or (f27_.or O_))) hmo (OrcOk.or okf9_ (OrcOk.or okf27_ OO_)) (by kernel_rfl) fun W => by kernel_rfl
theorem okf51_ : OrcOk Tryz.prog f51_ := orcFr_ok (n := 1000000) (fr := ⟨.nil, []⟩) (orc := (f6_.or (f5_.or (f4_.or (f27_.or O_))))) hmo (OrcOk.or okf6_ (OrcOk.or okf5_ (OrcOk.or okf4_ (OrcOk.or okf27_ OO_)))) (by kernel_rfl) fun W => by kernel_rfl
theorem okf52_ : OrcOk Tryz.prog f52_ := orcFr_ok (n := 1000000) (fr := ⟨.nil, []⟩) (orc := (f4_.or (f27_.or (f13_.or (f12_.or O_))))) hmo (OrcOk.or okf4_ (OrcOk.or okf27_ (OrcOk.or okf13_ (OrcOk.or okf12_ OO_)))) (by kernel_rfl) fun W => by kernel_rfl
end Go.Proofs.YtgijbobfiocopaaGreatDoor.topReload
