/- PersistTimes: pieces of its runs, by the kernel. -/
import Derived.Test.YtakckpjalmmemaaGreatDoorEvPersistTimesFr
import Derived.Test.YtakckpjalmmemaaGreatDoorEvPersistTimesFrC0
import Derived.Test.YtakckpjalmmemaaGreatDoorEvPersistTimesFrC2
import Derived.KernelRfl
namespace Go.Proofs.YtakckpjalmmemaaGreatDoor.persistTimes
open Go.YtakckpjalmmemaaGreatDoorEv
set_option linter.unusedSectionVars false
variable [Lane]
set_option maxRecDepth 100000
theorem okf105_ : OrcOk Tryz.prog f105_ := orcFr_ok (n := 1000000) (fr := ⟨.nil, []⟩) (orc := (f104_.or O_)) hmo (OrcOk.or okf104_ OO_) (by kernel_rfl) fun W => by kernel_rfl
theorem okf106_ : OrcOk Tryz.prog f106_ := orcFr_ok (n := 1000000) (fr := ⟨.nil, []⟩) (orc := (f104_.or O_)) hmo (OrcOk.or okf104_ OO_) (by kernel_rfl) fun W => by kernel_rfl
theorem okf107_ : OrcOk Tryz.prog f107_ := orcFr_ok (n := 1000000) (fr := ⟨.nil, []⟩) (orc := (f4_.or (f1_.or (f104_.or O_)))) hmo (OrcOk.or okf4_ (OrcOk.or okf1_ (OrcOk.or okf104_ OO_))) (by kernel_rfl) fun W => by kernel_rfl
theorem okf108_ : OrcOk Tryz.prog f108_ := orcFr_ok (n := 1000000) (fr := ⟨.nil, []⟩) (orc := (f104_.or O_)) hmo (OrcOk.or okf104_ OO_) (by kernel_rfl) fun W => by kernel_rfl
theorem okf109_ : OrcOk Tryz.prog f109_ := orcFr_ok (n := 1000000) (fr := ⟨.nil, []⟩) (orc := (f104_.or O_)) hmo (OrcOk.or okf104_ OO_) (by kernel_rfl) fun W => by kernel_rfl
theorem okf110_ : OrcOk Tryz.prog f110_ := orcFr_ok (n := 1000000) (fr := ⟨.nil, []⟩) (orc := (f104_.or O_)) hmo (OrcOk.or okf104_ OO_) (by kernel_rfl) fun W => by kernel_rfl
theorem okf111_ : OrcOk Tryz.prog f111_ := orcFr_ok (n := 1000000) (fr := ⟨.nil, []⟩) (orc := (f104_.or O_)) hmo (OrcOk.or okf104_ OO_) (by kernel_rfl) fun W => by kernel_rfl
theorem okf112_ : OrcOk Tryz.prog f112_ := orcFr_ok (n := 1000000) (fr := ⟨.nil, []⟩) (orc := (f104_.or O_)) hmo (OrcOk.or okf104_ OO_) (by kernel_rfl) fun W => by kernel_rfl
theorem okf113_ : OrcOk Tryz.prog f113_ := orcFr_ok (n := 1000000) (fr := ⟨.nil, []⟩) (orc := (f104_.or O_)) hmo (OrcOk.or okf104_ OO_) (by kernel_rfl) fun W => by kernel_rfl
theorem okf114_ : OrcOk Tryz.prog f114_ := orcFr_ok (n := 1000000) (fr := ⟨.nil, []⟩) (orc := (f104_.or O_)) hmo (OrcOk.or okf104_ OO_) (by kernel_rfl) fun W => by kernel_rfl
theorem okf115_ : OrcOk Tryz.prog f115_ := orcFr_ok (n := 1000000) (fr := ⟨.nil, []⟩) (orc := (f104_.or O_)) hmo (OrcOk.or okf104_ OO_) (by kernel_rfl) fun W => by kernel_rfl
theorem okf116_ : OrcOk Tryz.prog f116_ := orcFr_ok (n := 1000000) (fr := ⟨.nil, []⟩) (orc := (f104_.or O_)) hmo (OrcOk.or okf104_ OO_) (by kernel_rfl) fun W => by kernel_rfl
theorem okf117_ : OrcOk Tryz.prog f117_ := orcFr_ok (n := 1000000) (fr := ⟨.nil, []⟩) (orc := (f104_.or O_)) hmo (OrcOk.or okf104_ OO_) (by kernel_rfl) fun W => by kernel_rfl
theorem okf118_ : OrcOk Tryz.prog f118_ := orcFr_ok (n := 1000000) (fr := ⟨.nil, []⟩) (orc := (f104_.or O_)) hmo (OrcOk.or okf104_ OO_) (by kernel_rfl) fun W => by kernel_rfl
theorem okf119_ : OrcOk Tryz.prog f119_ := orcFr_ok (n := 1000000) (fr := ⟨.nil, []⟩) (orc := (f104_.or O_)) hmo (OrcOk.or okf104_ OO_) (by kernel_rfl) fun W => by kernel_rfl
theorem okf120_ : OrcOk Tryz.prog f120_ := orcFr_ok (n := 1000000) (fr := ⟨.nil, []⟩) (orc := (f104_.or O_)) hmo (OrcOk.or okf104_ OO_) (by kernel_rfl) fun W => by kernel_rfl
theorem okf121_ : OrcOk Tryz.prog f121_ := orcFr_ok (n := 1000000) (fr := ⟨.nil, []⟩) (orc := (f104_.or O_)) hmo (OrcOk.or okf104_ OO_) (by kernel_rfl) fun W => by kernel_rfl
theorem okf122_ : OrcOk Tryz.prog f122_ := orcFr_ok (n := 1000000) (fr := ⟨.nil, []⟩) (orc := (f104_.or O_)) hmo (OrcOk.or okf104_ OO_) (by kernel_rfl) fun W => by kernel_rfl
theorem okf123_ : OrcOk Tryz.prog f123_ := orcFr_ok (n := 1000000) (fr := ⟨.nil, []⟩) (orc := (f104_.or O_)) hmo (OrcOk.or okf104_ OO_) (by kernel_rfl) fun W => by kernel_rfl
theorem okf124_ : OrcOk Tryz.prog f124_ := orcFr_ok (n := 1000000) (fr := ⟨.nil, []⟩) (orc := (f104_.or O_)) hmo (OrcOk.or okf104_ OO_) (by kernel_rfl) fun W => by kernel_rfl
theorem okf125_ : OrcOk Tryz.prog f125_ := orcFr_ok (n := 1000000) (fr := ⟨.nil, []⟩) (orc := (f104_.or O_)) hmo (OrcOk.or okf104_ OO_) (by kernel_rfl) fun W => by kernel_rfl
theorem okf126_ : OrcOk Tryz.prog f126_ := orcFr_ok (n := 1000000) (fr := ⟨.nil, []⟩) (orc := (f104_.or O_)) hmo (OrcOk.or okf104_ OO_) (by kernel_rfl) fun W => by kernel_rfl
theorem okf127_ : OrcOk Tryz.prog f127_ := orcFr_ok (n := 1000000) (fr := ⟨.nil, []⟩) (orc := (f104_.or O_)) hmo (OrcOk.or okf104_ OO_) (by kernel_rfl) fun W => by kernel_rfl
theorem okf128_ : OrcOk Tryz.prog f128_ := orcFr_ok (n := 1000000) (fr := ⟨.nil, []⟩) (orc := (f104_.or O_)) hmo (OrcOk.or okf104_ OO_) (by kernel_rfl) fun W => by kernel_rfl
theorem okf129_ : OrcOk Tryz.prog f129_ := orcFr_ok (n := 1000000) (fr := ⟨.nil, []⟩) (orc := (f104_.or O_)) hmo (OrcOk.or okf104_ OO_) (by kernel_rfl) fun W => by kernel_rfl
theorem okf130_ : OrcOk Tryz.prog f130_ := orcFr_ok (n := 1000000) (fr := ⟨.nil, []⟩) (orc := (f104_.or O_)) hmo (OrcOk.or okf104_ OO_) (by kernel_rfl) fun W => by kernel_rfl
theorem okf131_ : OrcOk Tryz.prog f131_ := orcFr_ok (n := 1000000) (fr := ⟨.nil, []⟩) (orc := (f104_.or O_)) hmo (OrcOk.or okf104_ OO_) (by kernel_rfl) fun W => by kernel_rfl
theorem okf132_ : OrcOk Tryz.prog f132_ := orcFr_ok (n := 1000000) (fr := ⟨.nil, []⟩) (orc := (f104_.or O_)) hmo (OrcOk.or okf104_ OO_) (by kernel_rfl) fun W => by kernel_rfl
theorem okf133_ : OrcOk Tryz.prog f133_ := orcFr_ok (n := 1000000) (fr := ⟨.nil, []⟩) (orc := (f104_.or O_)) hmo (OrcOk.or okf104_ OO_) (by kernel_rfl) fun W => by kernel_rfl
theorem okf134_ : OrcOk Tryz.prog f134_ := orcFr_ok (n := 1000000) (fr := ⟨.nil, []⟩) (orc := (f104_.or O_)) hmo (OrcOk.or okf104_ OO_) (by kernel_rfl) fun W => by kernel_rfl
theorem okf135_ : OrcOk Tryz.prog f135_ := orcFr_ok (n := 1000000) (fr := ⟨.nil, []⟩) (orc := (f104_.or O_)) hmo (OrcOk.or okf104_ OO_) (by kernel_rfl) fun W => by kernel_rfl
theorem okf136_ : OrcOk Tryz.prog f136_ := orcFr_ok (n := 1000000) (fr := ⟨.nil, []⟩) (orc := (f104_.or O_)) hmo (OrcOk.or okf104_ OO_) (by kernel_rfl) fun W => by kernel_rfl
theorem okf137_ : OrcOk Tryz.prog f137_ := orcFr_ok (n := 1000000) (fr := ⟨.nil, []⟩) (orc := (f104_.or O_)) hmo (OrcOk.or okf104_ OO_) (by kernel_rfl) fun W => by kernel_rfl
theorem okf138_ : OrcOk Tryz.prog f138_ := orcFr_ok (n := 1000000) (fr := ⟨.nil, []⟩) (orc := (f104_.or O_)) hmo (OrcOk.or okf104_ OO_) (by kernel_rfl) fun W => by kernel_rfl
theorem okf139_ : OrcOk Tryz.prog f139_ := orcFr_ok (n := 1000000) (fr := ⟨.nil, []⟩) (orc := (f104_.or O_)) hmo (OrcOk.or okf104_ OO_) (by kernel_rfl) fun W => by kernel_rfl
theorem okf140_ : OrcOk Tryz.prog f140_ := orcFr_ok (n := 1000000) (fr := ⟨.nil, []⟩) (orc := (f104_.or O_)) hmo (OrcOk.or okf104_ OO_) (by kernel_rfl) fun W => by kernel_rfl
theorem okf141_ : OrcOk Tryz.prog f141_ := orcFr_ok (n := 1000000) (fr := ⟨.nil, []⟩) (orc := (f104_.or O_)) hmo (OrcOk.or okf104_ OO_) (by kernel_rfl) fun W => by kernel_rfl
theorem okf142_ : OrcOk Tryz.prog f142_ := orcFr_ok (n := 1000000) (fr := ⟨.nil, []⟩) (orc := (f104_.or O_)) hmo (OrcOk.or okf104_ OO_) (by kernel_rfl) fun W => by kernel_rfl
theorem okf143_ : OrcOk Tryz.prog f143_ := orcFr_ok (n := 1000000) (fr := ⟨.nil, []⟩) (orc := (f104_.or O_)) hmo (OrcOk.or okf104_ OO_) (by kernel_rfl) fun W => by kernel_rfl
theorem okf144_ : OrcOk Tryz.prog f144_ := orcFr_ok (n := 1000000) (fr := ⟨.nil, []⟩) (orc := (f104_.or O_)) hmo (OrcOk.or okf104_ OO_) (by kernel_rfl) fun W => by kernel_rfl
theorem okf145_ : OrcOk Tryz.prog f145_ := orcFr_ok (n := 1000000) (fr := ⟨.nil, []⟩) (orc := (f104_.or O_)) hmo (OrcOk.or okf104_ OO_) (by kernel_rfl) fun W => by kernel_rfl
theorem okf146_ : OrcOk Tryz.prog f146_ := orcFr_ok (n := 1000000) (fr := ⟨.nil, []⟩) (orc := (f104_.or O_)) hmo (OrcOk.or okf104_ OO_) (by kernel_rfl) fun W => by kernel_rfl
theorem okf147_ : OrcOk Tryz.prog f147_ := orcFr_ok (n := 1000000) (fr := ⟨.nil, []⟩) (orc := (f104_.or O_)) hmo (OrcOk.or okf104_ OO_) (by kernel_rfl) fun W => by kernel_rfl
theorem okf148_ : OrcOk Tryz.prog f148_ := orcFr_ok (n := 1000000) (fr := ⟨.nil, []⟩) (orc := (f104_.or O_)) hmo (OrcOk.or okf104_ OO_) (by kernel_rfl) fun W => by kernel_rfl
end Go.Proofs.YtakckpjalmmemaaGreatDoor.persistTimes
