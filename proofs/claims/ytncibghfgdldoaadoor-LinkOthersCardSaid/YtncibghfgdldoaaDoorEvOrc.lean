/- What is known of some of the library's functions, and of variables, at this seat. -/
import Derived.Test.YtncibghfgdldoaaDoorEv21
import Derived.Test.YtncibghfgdldoaaDoorShelf
import Derived.Test.YtncibghfgdldoaaDoorRows
import Derived.Shelf.Vars
import Derived.Stop.LaidErr
import Derived.KernelRfl
set_option linter.unusedVariables false
set_option maxRecDepth 100000
namespace Go.Proofs.YtncibghfgdldoaaDoor.evOrc
open Go.YtncibghfgdldoaaDoorEv Go.RowKit Go.Shelf
theorem maxLen (W : World) (h : W.ShapedOpen Tryd.prog) : ∃ x, W.cell? ⟨0, 0, none⟩ = some (.int .i64 x) :=
  cell_of_shapedOpen_int (g := 0) (t := 3) (zero := #[.int .i64 0]) (k := .i64) h (of_decide_eq_true (by kernel_rfl)) (by kernel_rfl) rfl (by kernel_rfl) (by kernel_rfl) (by kernel_rfl)
noncomputable def orc : Orc := (orcIndex 83).or ((orcJoin 122))
theorem orcOk : OrcOk Tryd.prog orc := OrcOk.or (orcIndex_ok maxLen fun s sub x w hs hm => Tryd.stringslite_Index s sub x w hs hm) ((orcJoin_ok fun bk o c xs sep w h1 h2 h3 h4 h5 => Tryd.strings_Join bk o c xs sep w h1 h2 h3 h4 h5))
end Go.Proofs.YtncibghfgdldoaaDoor.evOrc
