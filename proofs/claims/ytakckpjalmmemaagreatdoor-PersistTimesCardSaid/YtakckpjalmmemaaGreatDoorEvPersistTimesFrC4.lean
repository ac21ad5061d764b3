/- PersistTimes: pieces of its runs, by the kernel. -/
import Derived.Test.YtakckpjalmmemaaGreatDoorEvPersistTimesFr
import Derived.Test.YtakckpjalmmemaaGreatDoorEvPersistTimesFrC2
import Derived.KernelRfl
namespace Go.Proofs.YtakckpjalmmemaaGreatDoor.persistTimes
open Go.YtakckpjalmmemaaGreatDoorEv
set_option linter.unusedSectionVars false
variable [Lane]
set_option maxRecDepth 100000
theorem okf149_ : OrcOk Tryz.prog f149_ := orcFr_ok (n := 1000000) (fr := ⟨.nil, []⟩) (orc := (f104_.or O_)) hmo (OrcOk.or okf104_ OO_) (by kernel_rfl) fun W => by kernel_rfl
theorem okf150_ : OrcOk Tryz.prog f150_ := orcFr_ok (n := 1000000) (fr := ⟨.nil, []⟩) (orc := (f104_.or O_)) hmo (OrcOk.or okf104_ OO_) (by kernel_rfl) fun W => by kernel_rfl
theorem okf151_ : OrcOk Tryz.prog f151_ := orcFr_ok (n := 1000000) (fr := ⟨.nil, []⟩) (orc := (f104_.or O_)) hmo (OrcOk.or okf104_ OO_) (by kernel_rfl) fun W => by kernel_rfl
theorem okf152_ : OrcOk Tryz.prog f152_ := orcFr_ok (n := 1000000) (fr := ⟨.nil, []⟩) (orc := (f104_.or O_)) hmo (OrcOk.or okf104_ OO_) (by kernel_rfl) fun W => by kernel_rfl
theorem okf153_ : OrcOk Tryz.prog f153_ := orcFr_ok (n := 1000000) (fr := ⟨.nil, []⟩) (orc := (f104_.or O_)) hmo (OrcOk.or okf104_ OO_) (by kernel_rfl) fun W => by kernel_rfl
theorem okf154_ : OrcOk Tryz.prog f154_ := orcFr_ok (n := 1000000) (fr := ⟨.nil, []⟩) (orc := (f104_.or O_)) hmo (OrcOk.or okf104_ OO_) (by kernel_rfl) fun W => by kernel_rfl
theorem okf155_ : OrcOk Tryz.prog f155_ := orcFr_ok (n := 1000000) (fr := ⟨.nil, []⟩) (orc := (f104_.or O_)) hmo (OrcOk.or okf104_ OO_) (by kernel_rfl) fun W => by kernel_rfl
theorem okf156_ : OrcOk Tryz.prog f156_ := orcFr_ok (n := 1000000) (fr := ⟨.nil, []⟩) (orc := (f104_.or O_)) hmo (OrcOk.or okf104_ OO_) (by kernel_rfl) fun W => by kernel_rfl
theorem okf157_ : OrcOk Tryz.prog f157_ := orcFr_ok (n := 1000000) (fr := ⟨.nil, []⟩) (orc := (f104_.or O_)) hmo (OrcOk.or okf104_ OO_) (by kernel_rfl) fun W => by kernel_rfl
theorem okf158_ : OrcOk Tryz.prog f158_ := orcFr_ok (n := 1000000) (fr := ⟨.nil, []⟩) (orc := (f104_.or O_)) hmo (OrcOk.or okf104_ OO_) (by kernel_rfl) fun W => by kernel_rfl
theorem okf159_ : OrcOk Tryz.prog f159_ := orcFr_ok (n := 1000000) (fr := ⟨.nil, []⟩) (orc := (f104_.or O_)) hmo (OrcOk.or okf104_ OO_) (by kernel_rfl) fun W => by kernel_rfl
theorem okf160_ : OrcOk Tryz.prog f160_ := orcFr_ok (n := 1000000) (fr := ⟨.nil, []⟩) (orc := (f104_.or O_)) hmo (OrcOk.or okf104_ OO_) (by kernel_rfl) fun W => by kernel_rfl
theorem okf161_ : OrcOk Tryz.prog f161_ := orcFr_ok (n := 1000000) (fr := ⟨.nil, []⟩) (orc := (f104_.or O_)) hmo (OrcOk.or okf104_ OO_) (by kernel_rfl) fun W => by kernel_rfl
theorem okf162_ : OrcOk Tryz.prog f162_ := orcFr_ok (n := 1000000) (fr := ⟨.nil, []⟩) (orc := (f104_.or O_)) hmo (OrcOk.or okf104_ OO_) (by kernel_rfl) fun W => by kernel_rfl
theorem okf163_ : OrcOk Tryz.prog f163_ := orcFr_ok (n := 1000000) (fr := ⟨.nil, []⟩) (orc := (f104_.or O_)) hmo (OrcOk.or okf104_ OO_) (by kernel_rfl) fun W => by kernel_rfl
theorem okf164_ : OrcOk Tryz.prog f164_ := orcFr_ok (n := 1000000) (fr := ⟨.nil, []⟩) (orc := (f104_.or O_)) hmo (OrcOk.or okf104_ OO_) (by kernel_rfl) fun W => by kernel_rfl
theorem okf165_ : OrcOk Tryz.prog f165_ := orcFr_ok (n := 1000000) (fr := ⟨.nil, []⟩) (orc := (f104_.or O_)) hmo (OrcOk.or okf104_ OO_) (by kernel_rfl) fun W => by kernel_rfl
theorem okf166_ : OrcOk Tryz.prog f166_ := orcFr_ok (n := 1000000) (fr := ⟨.nil, []⟩) (orc := (f104_.or O_)) hmo (OrcOk.or okf104_ OO_) (by kernel_rfl) fun W => by kernel_rfl
theorem okf167_ : OrcOk Tryz.prog f167_ := orcFr_ok (n := 1000000) (fr := ⟨.nil, []⟩) (orc := (f104_.or O_)) hmo (OrcOk.or okf104_ OO_) (by kernel_rfl) fun W => by kernel_rfl
theorem okf168_ : OrcOk Tryz.prog f168_ := orcFr_ok (n := 1000000) (fr := ⟨.nil, []⟩) (orc := (f104_.or O_)) hmo (OrcOk.or okf104_ OO_) (by kernel_rfl) fun W => by kernel_rfl
theorem okf169_ : OrcOk Tryz.prog f169_ := orcFr_ok (n := 1000000) (fr := ⟨.nil, []⟩) (orc := (f104_.or O_)) hmo (OrcOk.or okf104_ OO_) (by kernel_rfl) fun W => by kernel_rfl
theorem okf170_ : OrcOk Tryz.prog f170_ := orcFr_ok (n := 1000000) (fr := ⟨.nil, []⟩) (orc := (f104_.or O_)) hmo (OrcOk.or okf104_ OO_) (by kernel_rfl) fun W => by kernel_rfl
theorem okf171_ : OrcOk Tryz.prog f171_ := orcFr_ok (n := 1000000) (fr := ⟨.nil, []⟩) (orc := (f104_.or O_)) hmo (OrcOk.or okf104_ OO_) (by kernel_rfl) fun W => by kernel_rfl
theorem okf172_ : OrcOk Tryz.prog f172_ := orcFr_ok (n := 1000000) (fr := ⟨.nil, []⟩) (orc := (f104_.or O_)) hmo (OrcOk.or okf104_ OO_) (by kernel_rfl) fun W => by kernel_rfl
theorem okf173_ : OrcOk Tryz.prog f173_ := orcFr_ok (n := 1000000) (fr := ⟨.nil, []⟩) (orc := (f104_.or O_)) hmo (OrcOk.or okf104_ OO_) (by kernel_rfl) fun W => by kernel_rfl
theorem okf174_ : OrcOk Tryz.prog f174_ := orcFr_ok (n := 1000000) (fr := ⟨.nil, []⟩) (orc := (f104_.or O_)) hmo (OrcOk.or okf104_ OO_) (by kernel_rfl) fun W => by kernel_rfl
theorem okf175_ : OrcOk Tryz.prog f175_ := orcFr_ok (n := 1000000) (fr := ⟨.nil, []⟩) (orc := (f104_.or O_)) hmo (OrcOk.or okf104_ OO_) (by kernel_rfl) fun W => by kernel_rfl
theorem okf176_ : OrcOk Tryz.prog f176_ := orcFr_ok (n := 1000000) (fr := ⟨.nil, []⟩) (orc := (f104_.or O_)) hmo (OrcOk.or okf104_ OO_) (by kernel_rfl) fun W => by kernel_rfl
theorem okf177_ : OrcOk Tryz.prog f177_ := orcFr_ok (n := 1000000) (fr := ⟨.nil, []⟩) (orc := (f104_.or O_)) hmo (OrcOk.or okf104_ OO_) (by kernel_rfl) fun W => by kernel_rfl
theorem okf178_ : OrcOk Tryz.prog f178_ := orcFr_ok (n := 1000000) (fr := ⟨.nil, []⟩) (orc := (f104_.or O_)) hmo (OrcOk.or okf104_ OO_) (by kernel_rfl) fun W => by kernel_rfl
theorem okf179_ : OrcOk Tryz.prog f179_ := orcFr_ok (n := 1000000) (fr := ⟨.nil, []⟩) (orc := (f104_.or O_)) hmo (OrcOk.or okf104_ OO_) (by kernel_rfl) fun W => by kernel_rfl
theorem okf180_ : OrcOk Tryz.prog f180_ := orcFr_ok (n := 1000000) (fr := ⟨.nil, []⟩) (orc := (f104_.or O_)) hmo (OrcOk.or okf104_ OO_) (by kernel_rfl) fun W => by kernel_rfl
theorem okf181_ : OrcOk Tryz.prog f181_ := orcFr_ok (n := 1000000) (fr := ⟨.nil, []⟩) (orc := (f104_.or O_)) hmo (OrcOk.or okf104_ OO_) (by kernel_rfl) fun W => by kernel_rfl
theorem okf182_ : OrcOk Tryz.prog f182_ := orcFr_ok (n := 1000000) (fr := ⟨.nil, []⟩) (orc := (f104_.or O_)) hmo (OrcOk.or okf104_ OO_) (by kernel_rfl) fun W => by kernel_rfl
theorem okf183_ : OrcOk Tryz.prog f183_ := orcFr_ok (n := 1000000) (fr := ⟨.nil, []⟩) (orc := (f104_.or O_)) hmo (OrcOk.or okf104_ OO_) (by kernel_rfl) fun W => by kernel_rfl
theorem okf184_ : OrcOk Tryz.prog f184_ := orcFr_ok (n := 1000000) (fr := ⟨.nil, []⟩) (orc := (f104_.or O_)) hmo (OrcOk.or okf104_ OO_) (by kernel_rfl) fun W => by kernel_rfl
theorem okf185_ : OrcOk Tryz.prog f185_ := orcFr_ok (n := 1000000) (fr := ⟨.nil, []⟩) (orc := (f104_.or O_)) hmo (OrcOk.or okf104_ OO_) (by kernel_rfl) fun W => by kernel_rfl
theorem okf186_ : OrcOk Tryz.prog f186_ := orcFr_ok (n := 1000000) (fr := ⟨.nil, []⟩) (orc := (f104_.or O_)) hmo (OrcOk.or okf104_ OO_) (by kernel_rfl) fun W => by kernel_rfl
theorem okf187_ : OrcOk Tryz.prog f187_ := orcFr_ok (n := 1000000) (fr := ⟨.nil, []⟩) (orc := (f104_.or O_)) hmo (OrcOk.or okf104_ OO_) (by kernel_rfl) fun W => by kernel_rfl
theorem okf188_ : OrcOk Tryz.prog f188_ := orcFr_ok (n := 1000000) (fr := ⟨.nil, []⟩) (orc := (f104_.or O_)) hmo (OrcOk.or okf104_ OO_) (by kernel_rfl) fun W => by kernel_rfl
theorem okf189_ : OrcOk Tryz.prog f189_ := orcFr_ok (n := 1000000) (fr := ⟨.nil, []⟩) (orc := (f104_.or O_)) hmo (OrcOk.or okf104_ OO_) (by kernel_rfl) fun W => by kernel_rfl
theorem okf190_ : OrcOk Tryz.prog f190_ := orcFr_ok (n := 1000000) (fr := ⟨.nil, []⟩) (orc := (f104_.or O_)) hmo (OrcOk.or okf104_ OO_) (by kernel_rfl) fun W => by kernel_rfl
theorem okf191_ : OrcOk Tryz.prog f191_ := orcFr_ok (n := 1000000) (fr := ⟨.nil, []⟩) (orc := (f104_.or O_)) hmo (OrcOk.or okf104_ OO_) (by kernel_rfl) fun W => by kernel_rfl
theorem okf192_ : OrcOk Tryz.prog f192_ := orcFr_ok (n := 1000000) (fr := ⟨.nil, []⟩) (orc := (f104_.or O_)) hmo (OrcOk.or okf104_ OO_) (by kernel_rfl) fun W => by kernel_rfl
end Go.Proofs.YtakckpjalmmemaaGreatDoor.persistTimes
